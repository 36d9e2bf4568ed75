import PyProof.Rows.All
import Wide.All
import OpenK.AllK
import Wide.FinOn
import HandS.ForMost
import HandS.WideBits
import HandS.Deep
import HandS.Style
import HandS.Exc
import HandS.ExcOwn
import HandS.WordsExc
import HandS.EndBits
import HandS.IsInst
import HandS.Wide
import HandS.TupAny
import PyProof.ReprRoads
import HandS.NoneIn
import HandS.TryOnly
import HandS.More
import HandS.Codes
import HandS.Defaults
import KE.IntBitsLaws
import PySem.Challenge.RW_baysout_k02_integers_and_points
set_option Elab.async false
set_option linter.all false
set_option maxRecDepth 100000
set_option maxHeartbeats 4000000
namespace Pf
open PySem L2

/-! ### data -/
inductive D where
  | non | bl (b : Bool) | int (i : Int) | str (s : Str) | ty (n : String)
  | lst (xs : List D) | tup (xs : List D) | rol (xs : List D)
  | dk (kvs : List (Key × D))
  | ins (c : Str) (fs : List (Str × D))
  | cls (c : Str)
  | exn (c : Str) (fs : List (Str × D))
  deriving Inhabited

/-- what a slot or a temporary holds: shared data, an owned list, the value of a slot that owns -/
inductive T where
  | sh (d : D) | own (xs : List D) | al (i : Nat)
  deriving Inhabited
abbrev Env := List (Option T)

/-- an exception: its class, its fields -/
structure Exn where
  cls : Str
  fs : List (Str × D)

inductive R (α : Type) where
  | ok (a : α) (ρ : Env) | ex (e : Exn) (ρ : Env) | bad
inductive RS where
  | nx (ρ : Env) | rt (t : T) (ρ : Env) | bk (ρ : Env) | ct (ρ : Env) | ex (e : Exn) (ρ : Env) | bad

/-! ### what stands in the heap -/
structure Cfg where
  K : PySem.W.Frag
  mg : Str → Option Value

mutual
inductive Rep (G : Cfg) (F : Hp) : V → D → Prop
  | non : Rep G F .non .non
  | bl {b} : Rep G F (.bl b) (.bl b)
  | int {i} : Rep G F (.int i) (.int i)
  | str {s} : Rep G F (.str s) (.str s)
  | ty {n} : Rep G F (.ty n) (.ty n)
  | lst {p vs ds} : F p = some (.lst vs) → Reps G F vs ds → Rep G F (.ref p) (.lst ds)
  | rol {p vs ds} : SqL G.K F p vs → Reps G F vs ds → Rep G F (.ref p) (.rol ds)
  | tup {p vs ds} : SqT G.K F p vs → Reps G F vs ds → Rep G F (.ref p) (.tup ds)
  | dk {p kvs ds} : F p = some (.dK kvs) → kvs.map (·.1) = ds.map (·.1) → Reps G F (kvs.map (·.2)) (ds.map (·.2)) → Rep G F (.ref p) (.dk ds)
  | cls {C c} : G.mg c = some (.ref C) → Rep G F (.ref C) (.cls c)
  | ins {p C dx fs c ds} : F p = some (.ins C dx fs) → G.mg c = some (.ref C) → fs.map (·.1) = ds.map (·.1) → Reps G F (fs.map (·.2)) (ds.map (·.2)) → Rep G F (.ref p) (.ins c ds)
inductive Reps (G : Cfg) (F : Hp) : List V → List D → Prop
  | nil : Reps G F [] []
  | cons {v d vs ds} : Rep G F v d → Reps G F vs ds → Reps G F (v :: vs) (d :: ds)
end

theorem sqL_mono {K : PySem.W.Frag} {F F' : Hp} (e : Same F F') {a : Addr} {xs : List V} (h : SqL K F a xs) : SqL K F' a xs := e.seq h
theorem rd_mono {F F' : Hp} (e : Same F F') {a : Addr} {u : HO} (h : Rd F a u) : Rd F' a u := by
  rcases h with h | ⟨o, h⟩
  · exact .inl (e _ _ h)
  · exact .inr ⟨o, e _ _ h⟩
theorem sqT_mono {K : PySem.W.Frag} {F F' : Hp} (e : Same F F') {a : Addr} {xs : List V} (h : SqT K F a xs) : SqT K F' a xs := by
  rcases h with h | h
  · exact .inl (rd_mono e h)
  · exact .inr h
section
variable {G : Cfg} {F F' : Hp}
mutual
theorem Rep.mono (e : Same F F') : ∀ {v d}, Rep G F v d → Rep G F' v d
  | _, _, .non => .non
  | _, _, .bl => .bl
  | _, _, .int => .int
  | _, _, .str => .str
  | _, _, .ty => .ty
  | _, _, .lst h r => .lst (e _ _ h) (r.mono e)
  | _, _, .rol h r => .rol (sqL_mono e h) (r.mono e)
  | _, _, .tup h r => .tup (sqT_mono e h) (r.mono e)
  | _, _, .dk h q r => .dk (e _ _ h) q (r.mono e)
  | _, _, .cls m => .cls m
  | _, _, .ins h m q r => .ins (e _ _ h) m q (r.mono e)
theorem Reps.mono (e : Same F F') : ∀ {vs ds}, Reps G F vs ds → Reps G F' vs ds
  | _, _, .nil => .nil
  | _, _, .cons h t => .cons (h.mono e) (t.mono e)
end
theorem Reps.length : ∀ {vs ds}, Reps G F vs ds → vs.length = ds.length
  | _, _, .nil => rfl
  | _, _, .cons _ t => by simp only [List.length_cons, t.length]
theorem Reps.get : ∀ {vs ds} {i : Nat} {d : D}, Reps G F vs ds → ds[i]? = some d → ∃ v, vs[i]? = some v ∧ Rep G F v d
  | _, _, _, _, .nil, e => by simp at e
  | _, _, 0, _, .cons r _, e => by simp at e; subst e; exact ⟨_, rfl, r⟩
  | _, _, i + 1, _, .cons _ t, e => by
    obtain ⟨v, h1, h2⟩ := Reps.get (i := i) t (by simpa using e)
    exact ⟨v, by simpa using h1, h2⟩
theorem Reps.getV : ∀ {vs ds} {i : Nat} {v : V}, Reps G F vs ds → vs[i]? = some v → ∃ d, ds[i]? = some d ∧ Rep G F v d
  | _, _, _, _, .nil, e => by simp at e
  | _, _, 0, _, .cons r _, e => by simp at e; subst e; exact ⟨_, rfl, r⟩
  | _, _, i + 1, _, .cons _ t, e => by
    obtain ⟨d, h1, h2⟩ := Reps.getV (i := i) t (by simpa using e)
    exact ⟨d, by simpa using h1, h2⟩
theorem Reps.append : ∀ {vs ds vs' ds'}, Reps G F vs ds → Reps G F vs' ds' → Reps G F (vs ++ vs') (ds ++ ds')
  | _, _, _, _, .nil, s => s
  | _, _, _, _, .cons r t, s => .cons r (t.append s)
theorem Reps.take : ∀ {vs ds} (n : Nat), Reps G F vs ds → Reps G F (vs.take n) (ds.take n)
  | _, _, 0, _ => .nil
  | _, _, _ + 1, .nil => .nil
  | _, _, n + 1, .cons r t => .cons r (t.take n)
theorem Reps.drop : ∀ {vs ds} (n : Nat), Reps G F vs ds → Reps G F (vs.drop n) (ds.drop n)
  | _, _, 0, r => r
  | _, _, _ + 1, .nil => .nil
  | _, _, n + 1, .cons _ t => t.drop n
theorem Reps.set : ∀ {vs ds} {v d} (i : Nat), Reps G F vs ds → Rep G F v d → Reps G F (vs.set i v) (ds.set i d)
  | _, _, _, _, _, .nil, _ => .nil
  | _, _, _, _, 0, .cons _ t, h => .cons h t
  | _, _, _, _, i + 1, .cons r t, h => .cons r (t.set i h)
theorem Reps.one {v d} (h : Rep G F v d) : Reps G F [v] [d] := .cons h .nil
end

/-- what a value shows at this moment: shared data, or a list that a slot owns -/
def RepV (G : Cfg) (F H : Hp) (v : V) (d : D) : Prop := Rep G F v d ∨ ∃ p vs ds, v = .ref p ∧ d = .lst ds ∧ H p = some (.lst vs) ∧ Reps G F vs ds

inductive RepT (G : Cfg) (σ : L2.St) (F H : Hp) : V → T → List Addr → Prop
  | sh {v d} : Rep G F v d → RepT G σ F H v (.sh d) []
  | own {p vs ds} : H p = some (.lst vs) → F p = none → Reps G F vs ds → RepT G σ F H (.ref p) (.own ds) [p]
  | al {i v} : σ[i]? = some (some v) → RepT G σ F H v (.al i) []
/-- the slots -/
inductive RepS (G : Cfg) (F H : Hp) : L2.St → Env → List Addr → Prop
  | nil : RepS G F H [] [] []
  | skip {o σ ρ A} : RepS G F H σ ρ A → RepS G F H (o :: σ) (none :: ρ) A
  | sh {v d σ ρ A} : Rep G F v d → RepS G F H σ ρ A → RepS G F H (some v :: σ) (some (.sh d) :: ρ) A
  | own {p vs ds σ ρ A} : H p = some (.lst vs) → F p = none → Reps G F vs ds → RepS G F H σ ρ A → RepS G F H (some (.ref p) :: σ) (some (.own ds) :: ρ) (p :: A)
/-- the temporaries -/
inductive RepL (G : Cfg) (σ : L2.St) (F H : Hp) : List (V × T) → List Addr → Prop
  | nil : RepL G σ F H [] []
  | cons {v t τ A B} : RepT G σ F H v t A → RepL G σ F H τ B → RepL G σ F H ((v, t) :: τ) (A ++ B)

/-- the frame at its entry: what was shared, what stood, what was lent (with its slots) -/
structure Fm where
  F0 : Hp
  H0 : Hp
  B : List Addr
  m : List (Nat × V)

structure Good (G : Cfg) (fm : Fm) (ρ : Env) (σ : L2.St) (τ : List (V × T)) (F H : Hp) : Prop where
  FH : Same F H
  F0 : Same fm.F0 F
  keep : ∀ a o, fm.H0 a = some o → a ∉ fm.B → H a = some o
  hid : ∀ a, fm.H0 a ≠ none → fm.F0 a = none → F a = none
  live : ∀ a, fm.H0 a ≠ none → H a ≠ none
  pin : ∀ p ∈ fm.m, σ[p.1]? = some (some p.2)
  lent : ∀ pr ∈ fm.m, ∃ ds, ρ[pr.1]? = some (some (.own ds))
  lb : ∀ a ∈ fm.B, ∃ j, (j, V.ref a) ∈ fm.m
  own : ∃ A1 A2, RepS G F H σ ρ A1 ∧ RepL G σ F H τ A2 ∧ (A1 ++ A2).Nodup ∧ ∀ a ∈ A1 ++ A2, fm.H0 a = none ∨ a ∈ fm.B

theorem Good.lentAt {G : Cfg} {fm : Fm} {ρ : Env} {σ : L2.St} {τ : List (V × T)} {F H : Hp} (g : Good G fm ρ σ τ F H) (a : Addr) (h : a ∈ fm.B) : ∃ j ds, (j, V.ref a) ∈ fm.m ∧ ρ[j]? = some (some (.own ds)) := by
  obtain ⟨j, hj⟩ := g.lb a h
  obtain ⟨ds, e⟩ := g.lent _ hj
  exact ⟨j, ds, hj, e⟩

/-- what grows: the heap, the shared part; what stood hidden stays so -/
structure Grow (F H F' H' : Hp) : Prop where
  FF : Same F F'
  HH : Same H H'
  hid : ∀ a, H a ≠ none → F a = none → F' a = none
  FH : Same F' H'
theorem Grow.refl {F H : Hp} (h : Same F H) : Grow F H F H := ⟨.refl _, .refl _, fun _ _ h => h, h⟩
theorem Grow.trans {F H F1 H1 F2 H2 : Hp} (a : Grow F H F1 H1) (b : Grow F1 H1 F2 H2) : Grow F H F2 H2 :=
  ⟨a.FF.trans b.FF, a.HH.trans b.HH, fun x h1 h2 => b.hid x (fun z => by
    cases q : H x with
    | none => exact h1 q
    | some o => rw [a.HH x o q] at z; cases z) (a.hid x h1 h2), b.FH⟩

theorem same_upd_new {H : Hp} {p : Addr} {o : HO} (h : H p = none) : Same H (upd H p o) := fun a u e => by
  rw [upd_ne (ne_of_none e h)]; exact e
theorem same_upd_upd {F H : Hp} {p : Addr} {o : HO} (e : Same F H) : Same (upd F p o) (upd H p o) := fun a u q => by
  by_cases h : a = p
  · subst h; rw [upd_same] at q ⊢; exact q
  · rw [upd_ne h] at q ⊢; exact e _ _ q
theorem none_of_same {F H : Hp} (e : Same F H) {p : Addr} (h : H p = none) : F p = none := e.free h
/-- a new shared thing -/
theorem Grow.new {F H : Hp} {p : Addr} {o : HO} (e : Same F H) (h : H p = none) : Grow F H (upd F p o) (upd H p o) :=
  ⟨same_upd_new (none_of_same e h), same_upd_new h, fun a h1 h2 => by
    rw [upd_ne (fun z => h1 (by rw [z]; exact h))]; exact h2, same_upd_upd e⟩
/-- a new thing of one's own -/
theorem Grow.newOwn {F H : Hp} {p : Addr} {o : HO} (e : Same F H) (h : H p = none) : Grow F H F (upd H p o) :=
  ⟨.refl _, same_upd_new h, fun _ _ h => h, e.trans (same_upd_new h)⟩

section
variable {G : Cfg} {σ σ' : L2.St} {F H F' H' : Hp} {ρ : Env} {τ : List (V × T)} {A : List Addr} {v : V} {t : T} {fm : Fm}
theorem RepS.mono (eF : Same F F') (eH : ∀ a ∈ A, ∀ o, H a = some o → H' a = some o) (hid : ∀ a ∈ A, F' a = none) (h : RepS G F H σ ρ A) : RepS G F' H' σ ρ A := by
  induction h with
  | nil => exact .nil
  | skip _ ih => exact .skip (ih eH hid)
  | sh r _ ih => exact .sh (r.mono eF) (ih eH hid)
  | own h1 h2 h3 _ ih => exact .own (eH _ (List.mem_cons_self ..) _ h1) (hid _ (List.mem_cons_self ..)) (h3.mono eF) (ih (fun a ha => eH a (List.mem_cons_of_mem _ ha)) fun a ha => hid a (List.mem_cons_of_mem _ ha))
theorem RepT.mono (eF : Same F F') (eH : ∀ a ∈ A, ∀ o, H a = some o → H' a = some o) (hid : ∀ a ∈ A, F' a = none) (h : RepT G σ F H v t A) : RepT G σ F' H' v t A := by
  cases h with
  | sh r => exact .sh (r.mono eF)
  | own h1 h2 h3 => exact .own (eH _ (List.mem_cons_self ..) _ h1) (hid _ (List.mem_cons_self ..)) (h3.mono eF)
  | al e => exact .al e
theorem RepL.mono (eF : Same F F') (eH : ∀ a ∈ A, ∀ o, H a = some o → H' a = some o) (hid : ∀ a ∈ A, F' a = none) (h : RepL G σ F H τ A) : RepL G σ F' H' τ A := by
  induction h with
  | nil => exact .nil
  | cons r _ ih => exact .cons (r.mono eF (fun a ha => eH a (List.mem_append_left _ ha)) fun a ha => hid a (List.mem_append_left _ ha)) (ih (fun a ha => eH a (List.mem_append_right _ ha)) fun a ha => hid a (List.mem_append_right _ ha))
theorem RepS.len (h : RepS G F H σ ρ A) : σ.length = ρ.length := by
  induction h with
  | nil => rfl
  | skip _ ih => simp [ih]
  | sh _ _ ih => simp [ih]
  | own _ _ _ _ ih => simp [ih]
theorem RepS.mem (h : RepS G F H σ ρ A) : ∀ a ∈ A, F a = none ∧ ∃ vs, H a = some (.lst vs) := by
  induction h with
  | nil => exact fun a ha => nomatch ha
  | skip _ ih => exact ih
  | sh _ _ ih => exact ih
  | own h1 h2 _ _ ih =>
    intro a ha
    rcases List.mem_cons.mp ha with rfl | ha
    · exact ⟨h2, _, h1⟩
    · exact ih a ha
theorem RepT.mem (h : RepT G σ F H v t A) : ∀ a ∈ A, F a = none ∧ ∃ vs, H a = some (.lst vs) := by
  cases h with
  | sh _ => exact fun a ha => nomatch ha
  | own h1 h2 _ =>
    intro a ha
    rcases List.mem_cons.mp ha with rfl | ha
    · exact ⟨h2, _, h1⟩
    · exact nomatch ha
  | al _ => exact fun a ha => nomatch ha
theorem RepL.mem (h : RepL G σ F H τ A) : ∀ a ∈ A, F a = none ∧ ∃ vs, H a = some (.lst vs) := by
  induction h with
  | nil => exact fun a ha => nomatch ha
  | cons r _ ih =>
    intro a ha
    rcases List.mem_append.mp ha with ha | ha
    · exact r.mem a ha
    · exact ih a ha
theorem RepS.get (h : RepS G F H σ ρ A) : ∀ {i : Nat} {t : T}, ρ[i]? = some (some t) → ∃ v, σ[i]? = some (some v) ∧ ((∃ d, t = .sh d ∧ Rep G F v d) ∨ ∃ p vs ds, t = .own ds ∧ v = .ref p ∧ H p = some (.lst vs) ∧ Reps G F vs ds ∧ p ∈ A) := by
  induction h with
  | nil => intro i t e; simp at e
  | skip _ ih =>
    intro i t e
    cases i with
    | zero => simp at e
    | succ i => simpa using ih (i := i) (by simpa using e)
  | sh r _ ih =>
    intro i t e
    cases i with
    | zero => simp at e; subst e; exact ⟨_, rfl, .inl ⟨_, rfl, r⟩⟩
    | succ i => simpa using ih (i := i) (by simpa using e)
  | own h1 h2 h3 _ ih =>
    intro i t e
    cases i with
    | zero => simp at e; subst e; exact ⟨_, rfl, .inr ⟨_, _, _, rfl, rfl, h1, h3, List.mem_cons_self ..⟩⟩
    | succ i =>
      obtain ⟨v, e1, q⟩ := ih (i := i) (by simpa using e)
      refine ⟨v, by simpa using e1, ?_⟩
      rcases q with q | ⟨p, vs, ds, a, b, c, d, m⟩
      · exact .inl q
      · exact .inr ⟨p, vs, ds, a, b, c, d, List.mem_cons_of_mem _ m⟩
end
end Pf

namespace Pf
open PySem PySem.Spec L2

/-- the data that a slot shows -/
def slotD : Option (Option T) → Option D
  | some (some (.sh d)) => some d
  | some (some (.own ds)) => some (.lst ds)
  | _ => none
/-- the data that a temporary shows -/
def view (ρ : Env) : T → Option D
  | .sh d => some d
  | .own ds => some (.lst ds)
  | .al i => slotD ρ[i]?
section
variable {G : Cfg} {σ σ' : L2.St} {F H F' H' : Hp} {ρ ρ' : Env} {τ : List (V × T)} {A : List Addr} {v : V} {t : T} {fm : Fm}
theorem Good.pop {x : V × T} (g : Good G fm ρ σ (x :: τ) F H) : Good G fm ρ σ τ F H := by
  obtain ⟨A1, A2, s, l, nd, k⟩ := g.own
  cases l with
  | cons r l =>
    rename_i A B
    refine ⟨g.FH, g.F0, g.keep, g.hid, g.live, g.pin, g.lent, g.lb, A1, B, s, l, ?_, fun a ha => k a ?_⟩
    · refine nd.sublist ?_
      exact List.Sublist.append_left (List.sublist_append_right _ _) _
    · rcases List.mem_append.mp ha with ha | ha
      · exact List.mem_append_left _ ha
      · exact List.mem_append_right _ (List.mem_append_right _ ha)

theorem Good.view {d : D} (g : Good G fm ρ σ ((v, t) :: τ) F H) (e : view ρ t = some d) : RepV G F H v d := by
  obtain ⟨A1, A2, s, l, nd, k⟩ := g.own
  cases l with
  | cons r l =>
    cases r with
    | sh r => cases e; exact .inl r
    | own h1 h2 h3 => cases e; exact .inr ⟨_, _, _, rfl, rfl, h1, h3⟩
    | al q =>
      rename_i i
      have e : slotD ρ[i]? = some d := e
      cases hq : ρ[i]? with
      | none => rw [hq] at e; cases e
      | some o =>
        rw [hq] at e
        cases o with
        | none => cases e
        | some t =>
          obtain ⟨v', e1, q'⟩ := s.get hq
          rw [q] at e1; cases e1
          rcases q' with ⟨d', rfl, r'⟩ | ⟨p, vs, ds, rfl, rfl, h1, h3, _⟩
          · cases e; exact .inl r'
          · cases e; exact .inr ⟨p, vs, ds, rfl, rfl, h1, h3⟩
/-- what stands among the temporaries -/
theorem Good.viewAt {τ' : List (V × T)} {d : D} (g : Good G fm ρ σ (τ' ++ (v, t) :: τ) F H) (e : Pf.view ρ t = some d) : RepV G F H v d := by
  induction τ' with
  | nil => exact g.view e
  | cons x τ' ih => exact ih g.pop

/-- a grown state, one more temporary -/
theorem Good.grow (g : Good G fm ρ σ τ F H) (k : Grow F H F' H') : Good G fm ρ σ τ F' H' := by
  obtain ⟨A1, A2, s, l, nd, k'⟩ := g.own
  have hs := s.mem
  have hl := l.mem
  refine ⟨k.FH, g.F0.trans k.FF, fun a o e n => k.HH _ _ (g.keep a o e n), fun a h1 h2 => k.hid a (g.live a h1) (g.hid a h1 h2), fun a h => ?_, g.pin, g.lent, g.lb,
    A1, A2, s.mono k.FF (fun a ha o e => k.HH _ _ e) (fun a ha => ?_), l.mono k.FF (fun a ha o e => k.HH _ _ e) (fun a ha => ?_), nd, k'⟩
  · cases q : H a with
    | none => exact absurd q (g.live a h)
    | some o => rw [k.HH _ _ q]; exact fun z => nomatch z
  · obtain ⟨h1, vs, h2⟩ := hs a ha
    exact k.hid a (by rw [h2]; exact fun z => nomatch z) h1
  · obtain ⟨h1, vs, h2⟩ := hl a ha
    exact k.hid a (by rw [h2]; exact fun z => nomatch z) h1
theorem Good.pushSh {d : D} (g : Good G fm ρ σ τ F H) (r : Rep G F v d) : Good G fm ρ σ ((v, .sh d) :: τ) F H := by
  obtain ⟨A1, A2, s, l, nd, k⟩ := g.own
  exact ⟨g.FH, g.F0, g.keep, g.hid, g.live, g.pin, g.lent, g.lb, A1, [] ++ A2, s, .cons (.sh r) l, nd, k⟩
theorem Good.pushAl {i : Nat} (g : Good G fm ρ σ τ F H) (r : σ[i]? = some (some v)) : Good G fm ρ σ ((v, .al i) :: τ) F H := by
  obtain ⟨A1, A2, s, l, nd, k⟩ := g.own
  exact ⟨g.FH, g.F0, g.keep, g.hid, g.live, g.pin, g.lent, g.lb, A1, [] ++ A2, s, .cons (.al r) l, nd, k⟩
/-- a new list of one's own: H ahead, H' behind; p is new -/
theorem Good.pushOwn {p : Addr} {vs : List V} {ds : List D} (g : Good G fm ρ σ τ F H) (k : Grow F H F' H') (hp : H p = none) (h1 : H' p = some (.lst vs)) (h2 : F' p = none) (r : Reps G F' vs ds) :
    Good G fm ρ σ ((.ref p, .own ds) :: τ) F' H' := by
  have g' := g.grow k
  obtain ⟨A1, A2, s, l, nd, k'⟩ := g.own
  have n1 : p ∉ A1 := fun ha => by
    obtain ⟨_, vs, h2⟩ := s.mem p ha
    rw [hp] at h2; cases h2
  have n2 : p ∉ A2 := fun ha => by
    obtain ⟨_, vs, h2⟩ := l.mem p ha
    rw [hp] at h2; cases h2
  have np : fm.H0 p = none := by
    cases q : fm.H0 p with
    | none => rfl
    | some o => exact absurd hp (g.live p (by rw [q]; exact fun z => nomatch z))
  have hs : RepS G F' H' σ ρ A1 := s.mono k.FF (fun a ha o e => k.HH _ _ e) (fun a ha => by
    obtain ⟨h1, vs, h2⟩ := s.mem a ha
    exact k.hid a (by rw [h2]; exact fun z => nomatch z) h1)
  have hl : RepL G σ F' H' τ A2 := l.mono k.FF (fun a ha o e => k.HH _ _ e) (fun a ha => by
    obtain ⟨h1, vs, h2⟩ := l.mem a ha
    exact k.hid a (by rw [h2]; exact fun z => nomatch z) h1)
  refine ⟨g'.FH, g'.F0, g'.keep, g'.hid, g'.live, g'.pin, g'.lent, g'.lb, A1, [p] ++ A2, hs, .cons (.own h1 h2 r) hl, ?_, fun a ha => ?_⟩
  · rw [List.nodup_append] at nd ⊢
    refine ⟨nd.1, List.nodup_cons.mpr ⟨n2, nd.2.1⟩, fun a ha b hb => ?_⟩
    rcases List.mem_cons.mp hb with rfl | hb
    · exact fun e => n1 (e ▸ ha)
    · exact nd.2.2 a ha b hb
  · rcases List.mem_append.mp ha with ha | ha
    · exact k' a (List.mem_append_left _ ha)
    · rcases List.mem_cons.mp ha with rfl | ha
      · exact .inl np
      · exact k' a (List.mem_append_right _ ha)
end


/-! ### freezing -/
section
variable {G : Cfg} {σ σ' : L2.St} {F H F' H' : Hp} {ρ ρ' : Env} {τ : List (V × T)} {A : List Addr} {v : V} {t : T} {fm : Fm}
/-- the slot i, a list of its own -/
theorem RepS.at_own (h : RepS G F H σ ρ A) : ∀ {i : Nat} {ds : List D}, ρ[i]? = some (some (.own ds)) → A.Nodup →
    ∃ (p : Addr) (vs : List V) (A1 A2 : List Addr), A = A1 ++ p :: A2 ∧ σ[i]? = some (some (.ref p)) ∧ H p = some (.lst vs) ∧ F p = none ∧ Reps G F vs ds ∧
      (∀ F' H', Same F F' → (∀ a ∈ A1 ++ A2, H' a = H a) → (∀ a ∈ A1 ++ A2, F' a = none) → ∀ d, Rep G F' (.ref p) d → RepS G F' H' σ (ρ.set i (some (.sh d))) (A1 ++ A2)) ∧
      (∀ F' H', Same F F' → (∀ a ∈ A1 ++ A2, H' a = H a) → (∀ a ∈ A, F' a = none) → ∀ vs' ds', H' p = some (.lst vs') → Reps G F' vs' ds' → RepS G F' H' σ (ρ.set i (some (.own ds'))) A) ∧
      (∀ F' H' o, Same F F' → (∀ a ∈ A1 ++ A2, H' a = H a) → (∀ a ∈ A1 ++ A2, F' a = none) → RepS G F' H' (σ.set i o) (ρ.set i none) (A1 ++ A2)) ∧
      (∀ j ds', ρ[j]? = some (some (.own ds')) → σ[j]? = some (some (.ref p)) → j = i) := by
  induction h with
  | nil => intro i ds e; simp at e
  | skip _ ih =>
    intro i ds e nd
    cases i with
    | zero => simp at e
    | succ i =>
      obtain ⟨p, vs, A1, A2, e1, e2, e3, e4, e5, k1, k2, k3, k4⟩ := ih (i := i) (by simpa using e) nd
      refine ⟨p, vs, A1, A2, e1, by simpa using e2, e3, e4, e5, fun F' H' a b c d r => .skip (k1 F' H' a b c d r), fun F' H' a b c vs' ds' d r => .skip (k2 F' H' a b c vs' ds' d r), fun F' H' o a b c => .skip (k3 F' H' o a b c), fun j ds' q1 q2 => ?_⟩
      cases j with
      | zero => simp at q1
      | succ j => rw [k4 j ds' (by simpa using q1) (by simpa using q2)]
  | sh r0 _ ih =>
    intro i ds e nd
    cases i with
    | zero => simp at e
    | succ i =>
      obtain ⟨p, vs, A1, A2, e1, e2, e3, e4, e5, k1, k2, k3, k4⟩ := ih (i := i) (by simpa using e) nd
      refine ⟨p, vs, A1, A2, e1, by simpa using e2, e3, e4, e5, fun F' H' a b c d r => .sh (r0.mono a) (k1 F' H' a b c d r), fun F' H' a b c vs' ds' d r => .sh (r0.mono a) (k2 F' H' a b c vs' ds' d r), fun F' H' o a b c => .sh (r0.mono a) (k3 F' H' o a b c), fun j ds' q1 q2 => ?_⟩
      cases j with
      | zero => simp at q1
      | succ j => rw [k4 j ds' (by simpa using q1) (by simpa using q2)]
  | own h1 h2 h3 hr ih =>
    rename_i p0 vs0 ds0 σ0 ρ0 A0
    intro i ds e nd
    cases i with
    | zero =>
      simp at e
      subst e
      have np := (List.nodup_cons.mp nd).1
      refine ⟨p0, vs0, [], A0, rfl, rfl, h1, h2, h3, fun F' H' a b c d r => .sh r ?_, fun F' H' a b c vs' ds' d r => .own d (c _ (List.mem_cons_self ..)) r ?_, fun F' H' o a b c => .skip ?_, fun j ds' q1 q2 => ?_⟩
      · exact hr.mono a (fun x hx o q => by rw [b x (by simpa using hx)]; exact q) fun x hx => c x (by simpa using hx)
      · exact hr.mono a (fun x hx o q => by rw [b x (by simpa using hx)]; exact q) fun x hx => c x (List.mem_cons_of_mem _ hx)
      · exact hr.mono a (fun x hx o q => by rw [b x (by simpa using hx)]; exact q) fun x hx => c x (by simpa using hx)
      · cases j with
        | zero => rfl
        | succ j =>
          obtain ⟨v, e1, q⟩ := hr.get (i := j) (by simpa using q1)
          have q2' : σ0[j]? = some (some (V.ref p0)) := by simpa using q2
          rw [q2'] at e1; cases e1
          rcases q with ⟨d, z, _⟩ | ⟨p, vs, ds, _, z, _, _, m⟩
          · cases z
          · cases z; exact absurd m np
    | succ i =>
      have nd' := List.nodup_cons.mp nd
      obtain ⟨p, vs, A1, A2, e1, e2, e3, e4, e5, k1, k2, k3, k4⟩ := ih (i := i) (by simpa using e) nd'.2
      have hm : ∀ x ∈ A1 ++ A2, x ∈ p0 :: A1 ++ A2 := fun x hx => List.mem_cons_of_mem _ hx
      refine ⟨p, vs, p0 :: A1, A2, by rw [e1]; rfl, by simpa using e2, e3, e4, e5, fun F' H' a b c d r => .own ?_ (c _ (List.mem_cons_self ..)) (h3.mono a) (k1 F' H' a (fun x hx => b x (hm x hx)) (fun x hx => c x (hm x hx)) d r),
        fun F' H' a b c vs' ds' d r => .own ?_ (c _ (List.mem_cons_self ..)) (h3.mono a) (k2 F' H' a (fun x hx => b x (hm x hx)) (fun x hx => c x (List.mem_cons_of_mem _ hx)) vs' ds' d r),
        fun F' H' o a b c => .own ?_ (c _ (List.mem_cons_self ..)) (h3.mono a) (k3 F' H' o a (fun x hx => b x (hm x hx)) (fun x hx => c x (hm x hx))), fun j ds' q1 q2 => ?_⟩
      · rw [b _ (List.mem_cons_self ..)]; exact h1
      · rw [b _ (List.mem_cons_self ..)]; exact h1
      · rw [b _ (List.mem_cons_self ..)]; exact h1
      · cases j with
        | zero =>
          simp at q2
          subst q2
          exact absurd (by rw [e1]; exact List.mem_append_right _ (List.mem_cons_self ..)) nd'.1
        | succ j => rw [k4 j ds' (by simpa using q1) (by simpa using q2)]
theorem RepS.set_none (h : RepS G F H σ ρ A) : ∀ (i : Nat) (o : Option V), ∃ B, RepS G F H (σ.set i o) (ρ.set i none) B ∧ B.Sublist A := by
  induction h with
  | nil => exact fun i o => ⟨[], .nil, .slnil⟩
  | skip h ih =>
    intro i o
    cases i with
    | zero => exact ⟨_, .skip h, List.Sublist.refl _⟩
    | succ i => obtain ⟨B, b1, b2⟩ := ih i o; exact ⟨B, .skip b1, b2⟩
  | sh r h ih =>
    intro i o
    cases i with
    | zero => exact ⟨_, .skip h, List.Sublist.refl _⟩
    | succ i => obtain ⟨B, b1, b2⟩ := ih i o; exact ⟨B, .sh r b1, b2⟩
  | own h1 h2 h3 h ih =>
    intro i o
    cases i with
    | zero => exact ⟨_, .skip h, List.sublist_cons_self _ _⟩
    | succ i => obtain ⟨B, b1, b2⟩ := ih i o; exact ⟨_, .own h1 h2 h3 b1, b2.cons_cons _⟩

/-- the pinned slots -/
def Pins (fm : Fm) (m : List Nat) : Prop := ∀ p ∈ fm.m, p.1 ∈ m
theorem nd_mid {p : Addr} {A1 A2 B : List Addr} (h : ((A1 ++ p :: A2) ++ B).Nodup) : ((A1 ++ A2) ++ B).Nodup ∧ p ∉ A1 ++ A2 ∧ p ∉ B := by
  have h' : (p :: ((A1 ++ A2) ++ B)).Nodup := by
    refine (List.Perm.nodup_iff ?_).mp h
    simp only [List.append_assoc, List.cons_append]
    exact List.perm_middle
  have q := List.nodup_cons.mp h'
  exact ⟨q.2, fun z => q.1 (List.mem_append_left _ z), fun z => q.1 (List.mem_append_right _ z)⟩
/-- a slot's own list is shared from now on -/
theorem Good.freeze {m : List Nat} (hm : Pins fm m) (g : Good G fm ρ σ τ F H) {i : Nat} {ds : List D} (e : ρ[i]? = some (some (.own ds))) (hi : i ∉ m) :
    ∃ F', Good G fm (ρ.set i (some (.sh (.lst ds)))) σ τ F' H ∧ Same F F' ∧ ∃ p, σ[i]? = some (some (.ref p)) ∧ Rep G F' (.ref p) (.lst ds) := by
  obtain ⟨A1, A2, s, l, nd, k⟩ := id g.own
  obtain ⟨p, vs, B1, B2, e1, e2, e3, e4, e5, k1, k2, k3, k4⟩ := s.at_own e (List.nodup_append.mp nd).1
  subst e1
  obtain ⟨nd2, n1, n2⟩ := nd_mid nd
  have hF : Same F (upd F p (.lst vs)) := same_upd_new e4
  have r : Rep G (upd F p (.lst vs)) (.ref p) (.lst ds) := .lst upd_same (e5.mono hF)
  have hF' : ∀ a, a ≠ p → upd F p (.lst vs) a = F a := fun a h => upd_ne h
  refine ⟨upd F p (.lst vs), ⟨fun a o q => ?_, g.F0.trans hF, g.keep, fun a h1 h2 => ?_, g.live, g.pin, fun pr hp => ?_, g.lb, B1 ++ B2, A2, ?_, ?_, nd2, fun a ha => k a ?_⟩, hF, p, e2, r⟩
  · by_cases ha : a = p
    · subst ha; rw [upd_same] at q; rw [e3]; exact q
    · rw [upd_ne ha] at q; exact g.FH _ _ q
  · have hne : a ≠ p := by
      rintro rfl
      rcases k a (List.mem_append_left _ (List.mem_append_right _ (List.mem_cons_self ..))) with z | z
      · exact h1 z
      · obtain ⟨j, ds', m1, m2⟩ := g.lentAt a z
        have := k4 j ds' m2 (g.pin _ m1)
        subst this
        exact hi (hm _ m1)
    rw [upd_ne hne]
    exact g.hid a h1 h2
  · obtain ⟨ds', m2⟩ := g.lent pr hp
    refine ⟨ds', ?_⟩
    have hj : i ≠ pr.1 := by rintro rfl; exact hi (hm _ hp)
    rw [List.getElem?_set_ne hj]; exact m2
  · refine k1 _ _ hF (fun _ _ => rfl) (fun a ha => ?_) _ r
    rw [upd_ne (show a ≠ p by intro z; rw [z] at ha; exact n1 ha)]
    exact (s.mem a (by rcases List.mem_append.mp ha with h | h; exact List.mem_append_left _ h; exact List.mem_append_right _ (List.mem_cons_of_mem _ h))).1
  · refine l.mono hF (fun _ _ _ q => q) fun a ha => ?_
    rw [upd_ne (show a ≠ p by intro z; rw [z] at ha; exact n2 ha)]
    exact (l.mem a ha).1
  · rcases List.mem_append.mp ha with ha | ha
    · refine List.mem_append_left _ ?_
      rcases List.mem_append.mp ha with h | h
      · exact List.mem_append_left _ h
      · exact List.mem_append_right _ (List.mem_cons_of_mem _ h)
    · exact List.mem_append_right _ ha
/-- a temporary list is shared from now on -/
theorem Good.freezeTop {p : V} {ds : List D} (g : Good G fm ρ σ ((p, .own ds) :: τ) F H) : ∃ F', Good G fm ρ σ ((p, .sh (.lst ds)) :: τ) F' H ∧ Same F F' := by
  obtain ⟨A1, A2, s, l, nd, k⟩ := id g.own
  cases l with
  | cons r l =>
    rename_i A B
    cases r with
    | own h1 h2 h3 =>
      rename_i p vs
      have hF : Same F (upd F p (.lst vs)) := same_upd_new h2
      have hp : p ∈ A1 ++ ([p] ++ B) := List.mem_append_right _ (List.mem_append_left _ (List.mem_cons_self ..))
      have nd' : (p :: (A1 ++ B)).Nodup := by
        refine (List.Perm.nodup_iff ?_).mp nd
        exact List.perm_middle
      have n0 := (List.nodup_cons.mp nd').1
      have n1 : p ∉ A1 := fun z => n0 (List.mem_append_left _ z)
      have n2 : p ∉ B := fun z => n0 (List.mem_append_right _ z)
      have r : Rep G (upd F p (.lst vs)) (.ref p) (.lst ds) := .lst upd_same (h3.mono hF)
      refine ⟨upd F p (.lst vs), ⟨fun a o q => ?_, g.F0.trans hF, g.keep, fun a z1 z2 => ?_, g.live, g.pin, g.lent, g.lb, A1, [] ++ B, ?_, .cons (.sh r) ?_, (List.nodup_cons.mp nd').2, fun a ha => k a ?_⟩, hF⟩
      · by_cases ha : a = p
        · subst ha; rw [upd_same] at q; rw [h1]; exact q
        · rw [upd_ne ha] at q; exact g.FH _ _ q
      · have hne : a ≠ p := by
          rintro rfl
          rcases k a hp with z | z
          · exact z1 z
          · obtain ⟨j, ds', m1, m2⟩ := g.lentAt a z
            obtain ⟨v, q1, q2⟩ := s.get m2
            rw [g.pin _ m1] at q1; cases q1
            rcases q2 with ⟨d, z, _⟩ | ⟨p, vs, ds, _, z, _, _, mm⟩
            · cases z
            · cases z; exact n1 mm
        rw [upd_ne hne]
        exact g.hid a z1 z2
      · refine s.mono hF (fun _ _ _ q => q) fun a ha => ?_
        rw [upd_ne (show a ≠ p by intro z; rw [z] at ha; exact n1 ha)]
        exact (s.mem a ha).1
      · refine l.mono hF (fun _ _ _ q => q) fun a ha => ?_
        rw [upd_ne (show a ≠ p by intro z; rw [z] at ha; exact n2 ha)]
        exact (l.mem a ha).1
      · rcases List.mem_append.mp ha with ha | ha
        · exact List.mem_append_left _ ha
        · exact List.mem_append_right _ (List.mem_append_right _ ha)
end
/-! ### readings of code as such -/
def tE (X : Cx) (e : Expr) : TE := fun σ H Q => ∀ pins s, Inv X pins σ H s → wpAny (model X.prog X.w) X.A (eval e X.env) (EP X pins σ Q) X.xe s
def tT (X : Cx) (e : Expr) : TT := fun σ H Q => ∀ pins s, Inv X pins σ H s → wpAny (model X.prog X.w) X.A (isTrue e X.env (eval e X.env)) (TP X pins σ Q) X.xe s
def tS (X : Cx) (st : Stmt) : TS := fun D σ H => ∀ pins s, Inv X pins σ H s → wpAny (model X.prog X.w) X.A (exec st X.env) (SP X pins D) X.xe s
def tSs (X : Cx) (st : List Stmt) : TS := fun D σ H => ∀ pins s, Inv X pins σ H s → wpAny (model X.prog X.w) X.A (execs st X.env) (SP X pins D) X.xe s
end Pf

namespace Pf
open PySem PySem.Spec L2

abbrev gX (X : Cx) : Cfg := ⟨X.K, X.mg⟩
/-- an exception as it lies: its class, its dict -/
def RepX (G : Cfg) (F : Hp) (x : Exn) (cls : Value) (d : Option Addr) : Prop :=
  ∃ (C dd : Addr) (fs : List (Str × V)), cls = .ref C ∧ G.mg x.cls = some (.ref C) ∧ d = some dd ∧ F dd = some (.xd fs) ∧ fs.map (·.1) = x.fs.map (·.1) ∧ Reps G F (fs.map (·.2)) (x.fs.map (·.2))

section
variable (X : Cx) (fm : Fm) (W : WX)
def PostX (σ : L2.St) (τ : List (V × T)) (x : Exn) (ρ' : Env) : Prop := ∀ cls d F' H', Good (gX X) fm ρ' σ τ F' H' → RepX (gX X) F' x cls d → W cls d σ H'
def PostE (σ : L2.St) (τ : List (V × T)) (r : R T) (Q : VK) : Prop := match r with
  | .ok t ρ' => ∀ v F' H', Good (gX X) fm ρ' σ ((v, t) :: τ) F' H' → Q v H'
  | .ex x ρ' => PostX X fm W σ τ x ρ'
  | .bad => False
def PostT (σ : L2.St) (τ : List (V × T)) (r : R Bool) (Q : Bool → Hp → Prop) : Prop := match r with
  | .ok b ρ' => ∀ F' H', Good (gX X) fm ρ' σ τ F' H' → Q b H'
  | .ex x ρ' => PostX X fm W σ τ x ρ'
  | .bad => False
def pushAll (vs : List V) (ts : List T) (τ : List (V × T)) : List (V × T) := (vs.zip ts).reverse ++ τ
def PostA (σ : L2.St) (τ : List (V × T)) (r : R (List T)) (Q : List V → Hp → Prop) : Prop := match r with
  | .ok ts ρ' => ∀ vs F' H', vs.length = ts.length → Good (gX X) fm ρ' σ (pushAll vs ts τ) F' H' → Q vs H'
  | .ex x ρ' => PostX X fm W σ τ x ρ'
  | .bad => False
def PostS (τ : List (V × T)) (r : RS) (D : Ends) : Prop := match r with
  | .nx ρ' => ∀ σ' F' H', Good (gX X) fm ρ' σ' τ F' H' → D.nx σ' H'
  | .rt t ρ' => ∀ v σ' F' H', Good (gX X) fm ρ' σ' ((v, t) :: τ) F' H' → D.rt v H'
  | .bk ρ' => ∀ σ' F' H', Good (gX X) fm ρ' σ' τ F' H' → D.bk σ' H'
  | .ct ρ' => ∀ σ' F' H', Good (gX X) fm ρ' σ' τ F' H' → D.ct σ' H'
  | .ex x ρ' => ∀ σ', PostX X fm W σ' τ x ρ'
  | .bad => False
end
/-- temporaries without aliases stand when slots are stored -/
def noAl : T → Bool
  | .al _ => false
  | _ => true
def NoAls (τ : List (V × T)) : Prop := ∀ x ∈ τ, noAl x.2 = true
section
variable (X : Cx) (m : List Nat) (W : WX)
def SE (e : Expr) (f : Env → R T) : Prop := ∀ fm, Pins fm m → ∀ ρ σ τ F H Q, Good (gX X) fm ρ σ τ F H → PostE X fm W σ τ (f ρ) Q → tE X e σ H Q
def ST (e : Expr) (f : Env → R Bool) : Prop := ∀ fm, Pins fm m → ∀ ρ σ τ F H Q, Good (gX X) fm ρ σ τ F H → PostT X fm W σ τ (f ρ) Q → tT X e σ H Q
def SA (es : List Expr) (f : Env → R (List T)) : Prop := ∃ t, PA X es t ∧ ∀ fm, Pins fm m → ∀ ρ σ τ F H Q, Good (gX X) fm ρ σ τ F H → PostA X fm W σ τ (f ρ) Q → t σ H Q
def SS (st : Stmt) (g : Env → RS) : Prop := ∀ fm, Pins fm m → ∀ ρ σ τ F H D, NoAls τ → Good (gX X) fm ρ σ τ F H → PostS X fm W τ (g ρ) D → tS X st D σ H
def SSs (st : List Stmt) (g : Env → RS) : Prop := ∀ fm, Pins fm m → ∀ ρ σ τ F H D, NoAls τ → Good (gX X) fm ρ σ τ F H → PostS X fm W τ (g ρ) D → tSs X st D σ H
end

section
variable {X : Cx}
theorem pe_tE {e : Expr} : PE X e (tE X e) := ⟨fun pins s σ H Q I h => h pins s I⟩
theorem pt_tT {e : Expr} : PT X e (tT X e) := ⟨fun pins s σ H Q I h => h pins s I⟩
theorem ps_tS {e : Stmt} : PS X e (tS X e) := ⟨fun pins s σ H Q I h => h pins s I⟩
theorem pss_tSs {e : List Stmt} : PSs X e (tSs X e) := ⟨fun pins s σ H Q I h => h pins s I⟩
theorem tE_of {e : Expr} {t : TE} (h : PE X e t) {σ : L2.St} {H : Hp} {Q : VK} (q : t σ H Q) : tE X e σ H Q := fun pins s I => h.run pins s σ H Q I q
theorem tT_of {e : Expr} {t : TT} (h : PT X e t) {σ : L2.St} {H : Hp} {Q : Bool → Hp → Prop} (q : t σ H Q) : tT X e σ H Q := fun pins s I => h.run pins s σ H Q I q
theorem tS_of {e : Stmt} {t : TS} (h : PS X e t) {σ : L2.St} {H : Hp} {D : Ends} (q : t D σ H) : tS X e D σ H := fun pins s I => h.run pins s σ H D I q
theorem tSs_of {e : List Stmt} {t : TS} (h : PSs X e t) {σ : L2.St} {H : Hp} {D : Ends} (q : t D σ H) : tSs X e D σ H := fun pins s I => h.run pins s σ H D I q
end

/-! ### results -/
def ResT (G : Cfg) (H0 F H : Hp) (v : V) : T → Prop
  | .sh d => Rep G F v d
  | .own ds => ∃ p vs, v = .ref p ∧ H0 p = none ∧ F p = none ∧ H p = some (.lst vs) ∧ Reps G F vs ds
  | .al _ => False
theorem Good.res {G : Cfg} {σ : L2.St} {F H F' H' : Hp} {ρ : Env} {τ : List (V × T)} {v : V} {t : T} {fm : Fm} (g : Good G fm ρ σ τ F H) (k : Grow F H F' H') (r : ResT G H F' H' v t) : Good G fm ρ σ ((v, t) :: τ) F' H' := by
  cases t with
  | sh d => exact (g.grow k).pushSh r
  | own ds =>
    obtain ⟨p, vs, rfl, h1, h2, h3, h4⟩ := r
    exact g.pushOwn k h1 h3 h2 h4
  | al i => exact r.elim
theorem RepV.mono {G : Cfg} {F H F' H' : Hp} {v : V} {d : D} (a : Same F F') (b : Same H H') (h : RepV G F H v d) : RepV G F' H' v d := by
  rcases h with h | ⟨p, vs, ds, h1, h2, h3, h4⟩
  · exact .inl (h.mono a)
  · exact .inr ⟨p, vs, ds, h1, h2, b _ _ h3, h4.mono a⟩

inductive RepVs (G : Cfg) (F H : Hp) : List V → List D → Prop
  | nil : RepVs G F H [] []
  | cons {v d vs ds} : RepV G F H v d → RepVs G F H vs ds → RepVs G F H (v :: vs) (d :: ds)
theorem Reps.toV {G : Cfg} {F H : Hp} : ∀ {vs ds}, Reps G F vs ds → RepVs G F H vs ds
  | _, _, .nil => .nil
  | _, _, .cons h t => .cons (.inl h) t.toV

def Op1 (G : Cfg) (r : V → Hp → VK → Prop) (op : D → Option T) : Prop := ∀ F H x dx t Q, Same F H → RepV G F H x dx → op dx = some t → (∀ v F' H', Grow F H F' H' → ResT G H F' H' v t → Q v H') → r x H Q
def Op2 (G : Cfg) (r : R2) (op : D → D → Option T) : Prop := ∀ F H x y dx dy t Q, Same F H → RepV G F H x dx → RepV G F H y dy → op dx dy = some t → (∀ v F' H', Grow F H F' H' → ResT G H F' H' v t → Q v H') → r x y H Q
def OpN (G : Cfg) (r : List V → Hp → VK → Prop) (op : List D → Option T) : Prop := ∀ F H vs ds t Q, Same F H → RepVs G F H vs ds → op ds = some t → (∀ v F' H', Grow F H F' H' → ResT G H F' H' v t → Q v H') → r vs H Q

/-! ### denotations of expressions -/
def R.bind {α β : Type} (r : R α) (k : α → Env → R β) : R β := match r with
  | .ok a ρ => k a ρ
  | .ex x ρ => .ex x ρ
  | .bad => .bad
def opt {β : Type} (o : Option β) (ρ : Env) : R β := match o with
  | some b => .ok b ρ
  | none => .bad
def views (ρ : Env) : List T → Option (List D)
  | [] => some []
  | t :: ts => match view ρ t, views ρ ts with
    | some d, some ds => some (d :: ds)
    | _, _ => none
/-- a value, no matter where -/
def eC (d : D) : Env → R T := fun ρ => .ok (.sh d) ρ
def eV (i : Nat) : Env → R T := fun ρ => match ρ[i]? with
  | some (some (.sh d)) => .ok (.sh d) ρ
  | some (some (.own _)) => .ok (.al i) ρ
  | _ => .bad
def e1 (op : D → Option T) (fa : Env → R T) : Env → R T := fun ρ => (fa ρ).bind fun ta ρ1 => opt ((view ρ1 ta).bind op) ρ1
def e2 (op : D → D → Option T) (fa fb : Env → R T) : Env → R T := fun ρ => (fa ρ).bind fun ta ρ1 => (fb ρ1).bind fun tb ρ2 => opt ((view ρ2 ta).bind fun a => (view ρ2 tb).bind fun b => op a b) ρ2
def eN (op : List D → Option T) (fs : Env → R (List T)) : Env → R T := fun ρ => (fs ρ).bind fun ts ρ1 => opt ((views ρ1 ts).bind op) ρ1
def aNil : Env → R (List T) := fun ρ => .ok [] ρ
def aCons (fa : Env → R T) (fs : Env → R (List T)) : Env → R (List T) := fun ρ => (fa ρ).bind fun t ρ1 => (fs ρ1).bind fun ts ρ2 => .ok (t :: ts) ρ2
/-- as a test -/
def truD : D → Option Bool
  | .non => some false
  | .bl b => some b
  | .int i => some (i != 0)
  | .str y => if y.length ≤ sizeLine then some ((y.length : Int) != 0) else none
  | .lst xs => some (!xs.isEmpty)
  | .tup xs => some (!xs.isEmpty)
  | _ => none
def cV (fa : Env → R T) : Env → R Bool := fun ρ => (fa ρ).bind fun t ρ1 => opt ((view ρ1 t).bind truD) ρ1
def cAnd (fa fb : Env → R Bool) : Env → R Bool := fun ρ => (fa ρ).bind fun a ρ1 => if a = true then fb ρ1 else .ok false ρ1
def cOr (fa fb : Env → R Bool) : Env → R Bool := fun ρ => (fa ρ).bind fun a ρ1 => if a = true then .ok true ρ1 else fb ρ1
def cNot (fa : Env → R Bool) : Env → R Bool := fun ρ => (fa ρ).bind fun a ρ1 => .ok (!a) ρ1
def eIf (c : Env → R Bool) (fa fb : Env → R T) : Env → R T := fun ρ => (c ρ).bind fun b ρ1 => if b = true then fa ρ1 else fb ρ1
/-- a and b, a or b, not a: truths -/
def isBl : D → Option Bool
  | .bl b => some b
  | _ => none
def eAnd (fa fb : Env → R T) : Env → R T := fun ρ => (fa ρ).bind fun t ρ1 => match (view ρ1 t).bind isBl with
  | some true => fb ρ1
  | some false => .ok (.sh (.bl false)) ρ1
  | none => .bad
def eOr (fa fb : Env → R T) : Env → R T := fun ρ => (fa ρ).bind fun t ρ1 => match (view ρ1 t).bind isBl with
  | some true => .ok (.sh (.bl true)) ρ1
  | some false => fb ρ1
  | none => .bad
def eNot (fa : Env → R T) : Env → R T := fun ρ => (fa ρ).bind fun t ρ1 => match (view ρ1 t).bind isBl with
  | some b => .ok (.sh (.bl (!b))) ρ1
  | none => .bad

section
variable {X : Cx} {fm : Fm} {m : List Nat} {W : WX} {σ : L2.St} {τ : List (V × T)} {ρ : Env}
theorem PostX.pop {x : Exn} {y : V × T} (h : PostX X fm W σ τ x ρ) : PostX X fm W σ (y :: τ) x ρ := fun cls d F' H' g r => h cls d F' H' g.pop r
theorem opt_some {β : Type} {o : Option β} {b : β} (h : o = some b) : opt o ρ = .ok b ρ := by rw [h]; rfl

theorem se_c {v : V} {d : D} {e : Expr} (h : PE X e (tC v)) (r : ∀ F, Rep (gX X) F v d) : SE X m W e (eC d) := fun fm hm ρ σ τ F H Q g q =>
  tE_of h (q v F H (g.pushSh (r F)))
theorem se_int {i j pos} : SE X m W (.Constant (.int i) j pos) (eC (.int i)) := se_c pe_int fun _ => .int
theorem se_bl {b j pos} : SE X m W (.Constant (.bool b) j pos) (eC (.bl b)) := se_c pe_bl fun _ => .bl
theorem se_non {j pos} : SE X m W (.Constant .none j pos) (eC .non) := se_c pe_non fun _ => .non
theorem se_str {x j pos} : SE X m W (.Constant (.str x) j pos) (eC (.str x)) := se_c pe_str fun _ => .str
theorem se_var (i : Nat) {x : Str} {pos : Pos} (hN : X.N[i]? = some x := by rfl) (hv : Vis X.env.scope x := by first | exact Or.inl rfl | exact Or.inr (Or.inl rfl) | exact Or.inr (Or.inr rfl)) (hd : (x == ("__debug__" : Str)) = false := by decide)
    (hcd : (x == ("__classdict__" : Str)) = false := by decide) : SE X m W (.Name x pos) (eV i) := fun fm hm ρ σ τ F H Q g q => by
  obtain ⟨A1, A2, s, l, nd, k⟩ := id g.own
  unfold eV at q
  split at q
  · rename_i d e
    obtain ⟨v, e1, r⟩ := s.get e
    rcases r with ⟨d', e2, r⟩ | ⟨p, vs, ds, e2, _⟩
    · cases e2
      exact tE_of (pe_var hN hv hd hcd) ⟨v, e1, q v F H (g.pushSh r)⟩
    · cases e2
  · rename_i ds e
    obtain ⟨v, e1, r⟩ := s.get e
    exact tE_of (pe_var hN hv hd hcd) ⟨v, e1, q v F H (g.pushAl e1)⟩
  · exact q.elim

/-- one part, then what is made of its value -/
theorem se_bind {a : Expr} {fa : Env → R T} (hm : Pins fm m) (ha : SE X m W a fa) {F H : Hp} (g : Good (gX X) fm ρ σ τ F H) {k : T → Env → R T} {Q : VK} (q : PostE X fm W σ τ ((fa ρ).bind k) Q) {Q1 : VK}
    (h : ∀ t ρ1 v F' H', Good (gX X) fm ρ1 σ ((v, t) :: τ) F' H' → PostE X fm W σ τ (k t ρ1) Q → Q1 v H') : tE X a σ H Q1 := by
  refine ha fm hm ρ σ τ F H Q1 g ?_
  cases e : fa ρ with
  | ok t ρ1 =>
    rw [e] at q
    exact fun v F' H' g' => h t ρ1 v F' H' g' q
  | ex x ρ1 =>
    rw [e] at q
    exact q
  | bad =>
    rw [e] at q
    exact q
theorem se_op1 {r : V → Hp → VK → Prop} {op : UnaryOp} {g : D → Option T} {a : Expr} {fa : Env → R T} {pos : Pos} (ho : UnR X (unaryOp op) r) (hs : Op1 (gX X) r g) (ha : SE X m W a fa) : SE X m W (.UnaryOp op a pos) (e1 g fa) := fun fm hm ρ σ τ F H Q gd q => by
  refine tE_of (pe_un ho pe_tE) (se_bind hm ha gd q fun t ρ1 v F' H' g' q' => ?_)
  unfold opt at q'
  split at q'
  · rename_i t' e
    obtain ⟨d, e1, e2⟩ := Option.bind_eq_some_iff.mp e
    exact hs F' H' v d t' Q g'.FH (g'.view e1) e2 fun v2 F2 H2 k r => q' v2 F2 H2 (g'.pop.res k r)
  · exact q'.elim
/-- two parts -/
theorem se_two {a b : Expr} {fa fb : Env → R T} (hm : Pins fm m) (ha : SE X m W a fa) (hb : SE X m W b fb) {F H : Hp} (g : Good (gX X) fm ρ σ τ F H) {k : T → T → Env → R T} {Q : VK}
    (q : PostE X fm W σ τ ((fa ρ).bind fun ta ρ1 => (fb ρ1).bind fun tb ρ2 => k ta tb ρ2) Q) {Q1 : V → V → Hp → Prop}
    (h : ∀ ta tb ρ2 v u F' H', Good (gX X) fm ρ2 σ ((u, tb) :: (v, ta) :: τ) F' H' → PostE X fm W σ τ (k ta tb ρ2) Q → Q1 v u H') : tE X a σ H fun v H1 => tE X b σ H1 fun u H2 => Q1 v u H2 := by
  refine se_bind hm ha g q fun ta ρ1 v F1 H1 g1 q1 => ?_
  refine hb fm hm ρ1 σ _ F1 H1 _ g1 ?_
  cases e : fb ρ1 with
  | ok tb ρ2 =>
    rw [e] at q1
    exact fun u F2 H2 g2 => h ta tb ρ2 v u F2 H2 g2 q1
  | ex x ρ2 =>
    rw [e] at q1
    exact PostX.pop q1
  | bad =>
    rw [e] at q1
    exact q1
theorem op2_end {r : R2} {g : D → D → Option T} (hs : Op2 (gX X) r g) {ta tb : T} {v u : V} {F H : Hp} {Q : VK} (gd : Good (gX X) fm ρ σ ((u, tb) :: (v, ta) :: τ) F H)
    (q : PostE X fm W σ τ (opt ((view ρ ta).bind fun a => (view ρ tb).bind fun b => g a b) ρ) Q) : r v u H Q := by
  unfold opt at q
  split at q
  · rename_i t' e
    obtain ⟨a, e1, e⟩ := Option.bind_eq_some_iff.mp e
    obtain ⟨b, e2, e3⟩ := Option.bind_eq_some_iff.mp e
    exact hs F H v u a b t' Q gd.FH (gd.pop.view e1) (gd.view e2) e3 fun v2 F2 H2 k r => q v2 F2 H2 (gd.pop.pop.res k r)
  · exact q.elim
theorem se_op2 {r : R2} {op : Operator} {g : D → D → Option T} {a b : Expr} {fa fb : Env → R T} {pos : Pos} (ho : OpR X (binaryOp op) r) (hs : Op2 (gX X) r g) (ha : SE X m W a fa) (hb : SE X m W b fb) : SE X m W (.BinOp a op b pos) (e2 g fa fb) := fun fm hm ρ σ τ F H Q gd q =>
  tE_of (pe_op ho pe_tE pe_tE) (se_two hm ha hb gd q fun ta tb ρ2 v u F' H' g' q' => op2_end hs g' q')
theorem se_cmp {r : R2} {op : CmpOp} {g : D → D → Option T} {a b : Expr} {fa fb : Env → R T} {pos : Pos} (ho : OpR X (compareOp op) r) (hs : Op2 (gX X) r g) (ha : SE X m W a fa) (hb : SE X m W b fb) (hb0 : behindInMarks op b = false := by first | exact nomark _ | with_unfolding_all rfl) :
    SE X m W (.Compare a [op] [b] pos) (e2 g fa fb) := fun fm hm ρ σ τ F H Q gd q =>
  tE_of (pe_cmpR ho pe_tE pe_tE hb0) (se_two hm ha hb gd q fun ta tb ρ2 v u F' H' g' q' => op2_end hs g' q')
end
end Pf

namespace Pf
open PySem PySem.Spec L2

/-! ### what is shared from now on -/
def frz (m : List Nat) (ρ : Env) : T → Option (D × Env)
  | .sh d => some (d, ρ)
  | .own ds => some (.lst ds, ρ)
  | .al i => match ρ[i]? with
    | some (some (.sh d)) => some (d, ρ)
    | some (some (.own ds)) => if i ∈ m then none else some (.lst ds, ρ.set i (some (.sh (.lst ds))))
    | _ => none
def eF (m : List Nat) (fa : Env → R T) : Env → R T := fun ρ => (fa ρ).bind fun t ρ1 => match frz m ρ1 t with
  | some (d, ρ2) => .ok (.sh d) ρ2
  | none => .bad
def shs : List T → Option (List D)
  | [] => some []
  | .sh d :: ts => (shs ts).map (d :: ·)
  | _ :: _ => none
def eTup (fs : Env → R (List T)) : Env → R T := fun ρ => (fs ρ).bind fun ts ρ1 => match shs ts with
  | some ds => if ds.length ≤ sizeLine then .ok (.sh (.tup ds)) ρ1 else .bad
  | none => .bad
def eLst (fs : Env → R (List T)) : Env → R T := fun ρ => (fs ρ).bind fun ts ρ1 => match shs ts with
  | some ds => if ds.length ≤ sizeLine then .ok (.own ds) ρ1 else .bad
  | none => .bad
def eChain (g g' : D → D → Option Bool) (fa fb fc : Env → R T) : Env → R T := fun ρ => (fa ρ).bind fun ta ρ1 => (fb ρ1).bind fun tb ρ2 =>
  match (view ρ2 ta).bind fun a => (view ρ2 tb).bind fun b => g a b with
  | some true => (fc ρ2).bind fun tc ρ3 => opt (((view ρ3 tb).bind fun b => (view ρ3 tc).bind fun c => g' b c).map fun k => .sh (.bl k)) ρ3
  | some false => .ok (.sh (.bl false)) ρ2
  | none => .bad
def asBl (g : D → D → Option Bool) : D → D → Option T := fun a b => (g a b).map fun k => .sh (.bl k)

section
variable {X : Cx} {fm : Fm} {m : List Nat} {W : WX} {σ : L2.St} {τ : List (V × T)} {ρ : Env}
theorem Good.frz (hm : Pins fm m) {G : Cfg} {F H : Hp} {v : V} {t : T} {d : D} {ρ2 : Env} (g : Good G fm ρ σ ((v, t) :: τ) F H) (e : Pf.frz m ρ t = some (d, ρ2)) :
    ∃ F', Good G fm ρ2 σ ((v, .sh d) :: τ) F' H := by
  cases t with
  | sh d' => cases e; exact ⟨F, g⟩
  | own ds =>
    cases e
    obtain ⟨F', g', _⟩ := g.freezeTop
    exact ⟨F', g'⟩
  | al i =>
    unfold Pf.frz at e
    dsimp only at e
    obtain ⟨A1, A2, s, l, nd, k⟩ := id g.own
    have hv : σ[i]? = some (some v) := by
      cases l with
      | cons r _ => cases r with | al q => exact q
    split at e
    · rename_i d' q
      cases e
      obtain ⟨v', e1, r⟩ := s.get q
      rw [hv] at e1; cases e1
      rcases r with ⟨d', e2, r⟩ | ⟨p, vs, ds, e2, _⟩
      · cases e2; exact ⟨F, g.pop.pushSh r⟩
      · cases e2
    · rename_i ds q
      split at e
      · cases e
      · rename_i hi
        cases e
        obtain ⟨F', g', hF, p, q1, q2⟩ := g.pop.freeze hm q hi
        rw [hv] at q1; cases q1
        exact ⟨F', g'.pushSh q2⟩
    · cases e
theorem se_f {e : Expr} {f : Env → R T} (h : SE X m W e f) : SE X m W e (eF m f) := fun fm hm ρ σ τ F H Q g q => by
  refine se_bind hm h g q fun t ρ1 v F' H' g' q' => ?_
  split at q'
  · rename_i d ρ2 e
    obtain ⟨F2, g2⟩ := g'.frz hm e
    exact q' v F2 H' g2
  · exact q'.elim

/-! ### arguments -/
theorem sa_nil : SA X m W [] aNil := ⟨tNil, pa_nil, fun fm hm ρ σ τ F H Q g q => q [] F H rfl g⟩
theorem pushAll_cons {v : V} {vs : List V} {t : T} {ts : List T} {τ : List (V × T)} : pushAll (v :: vs) (t :: ts) τ = pushAll vs ts ((v, t) :: τ) := by
  unfold pushAll
  simp [List.zip_cons_cons]
theorem sa_cons {e : Expr} {es : List Expr} {fa : Env → R T} {fs : Env → R (List T)} (h : SE X m W e fa) (hr : SA X m W es fs) (hs : starEach (e :: es) X.env = (false, eval e X.env) :: starEach es X.env := by rfl) : SA X m W (e :: es) (aCons fa fs) := by
  obtain ⟨tr, pr, r⟩ := hr
  refine ⟨tCons (tE X e) tr, pa_cons pe_tE pr hs, fun fm hm ρ σ τ F H Q g q => ?_⟩
  refine h fm hm ρ σ τ F H _ g ?_
  unfold aCons at q
  cases e1 : fa ρ with
  | ok t ρ1 =>
    rw [e1] at q
    refine fun v F' H' g' => r fm hm ρ1 σ _ F' H' _ g' ?_
    have q : PostA X fm W σ τ ((fs ρ1).bind fun ts ρ2 => R.ok (t :: ts) ρ2) Q := q
    cases e2 : fs ρ1 with
    | ok ts ρ2 =>
      rw [e2] at q
      intro vs F2 H2 hl g2
      exact q (v :: vs) F2 H2 (by simp [hl]) (by rw [pushAll_cons]; exact g2)
    | ex x ρ2 =>
      rw [e2] at q
      exact PostX.pop q
    | bad =>
      rw [e2] at q
      exact q
  | ex x ρ1 =>
    rw [e1] at q
    exact q
  | bad =>
    rw [e1] at q
    exact q
theorem sa_bind {es : List Expr} {fs : Env → R (List T)} {t : TA} (hm : Pins fm m) (r : ∀ fm, Pins fm m → ∀ ρ σ τ F H Q, Good (gX X) fm ρ σ τ F H → PostA X fm W σ τ (fs ρ) Q → t σ H Q) {F H : Hp} (g : Good (gX X) fm ρ σ τ F H) {k : List T → Env → R T} {Q : VK}
    (q : PostE X fm W σ τ ((fs ρ).bind k) Q) {Q1 : List V → Hp → Prop} (h : ∀ ts ρ1 vs F' H', vs.length = ts.length → Good (gX X) fm ρ1 σ (pushAll vs ts τ) F' H' → PostE X fm W σ τ (k ts ρ1) Q → Q1 vs H') : t σ H Q1 := by
  refine r fm hm ρ σ τ F H Q1 g ?_
  cases e : fs ρ with
  | ok ts ρ1 =>
    rw [e] at q
    exact fun vs F' H' hl g' => h ts ρ1 vs F' H' hl g' q
  | ex x ρ1 =>
    rw [e] at q
    exact q
  | bad =>
    rw [e] at q
    exact q
theorem pushAll_pop {G : Cfg} {F H : Hp} : ∀ (vs : List V) (ts : List T) (τ : List (V × T)), Good G fm ρ σ (pushAll vs ts τ) F H → Good G fm ρ σ τ F H := fun vs ts τ g => by
  unfold pushAll at g
  generalize (vs.zip ts).reverse = l at g
  induction l with
  | nil => exact g
  | cons x l ih => exact ih g.pop
theorem pushAll_views {G : Cfg} {F H : Hp} : ∀ {vs : List V} {ts : List T} {τ : List (V × T)} {ds : List D}, vs.length = ts.length → Good G fm ρ σ (pushAll vs ts τ) F H → views ρ ts = some ds → RepVs G F H vs ds
  | [], [], _, ds, _, g, e => by cases e; exact .nil
  | v :: vs, t :: ts, τ, ds, hl, g, e => by
    rw [pushAll_cons] at g
    unfold views at e
    split at e
    · rename_i d ds' e1 e2
      cases e
      exact .cons ((pushAll_pop _ _ _ g).view e1) (pushAll_views (by simpa using hl) g e2)
    · cases e
  | [], _ :: _, _, _, hl, _, _ => by simp at hl
  | _ :: _, [], _, _, hl, _, _ => by simp at hl
theorem pushAll_shs {G : Cfg} {F H : Hp} : ∀ {vs : List V} {ts : List T} {τ : List (V × T)} {ds : List D}, vs.length = ts.length → Good G fm ρ σ (pushAll vs ts τ) F H → shs ts = some ds → Reps G F vs ds
  | [], [], _, ds, _, g, e => by cases e; exact .nil
  | v :: vs, t :: ts, τ, ds, hl, g, e => by
    rw [pushAll_cons] at g
    cases t with
    | sh d =>
      unfold shs at e
      obtain ⟨ds', e1, e2⟩ := Option.map_eq_some_iff.mp e
      subst e2
      have g1 := pushAll_pop _ _ _ g
      obtain ⟨_, _, _, l, _, _⟩ := g1.own
      cases l with
      | cons r _ => cases r with | sh r => exact .cons r (pushAll_shs (by simpa using hl) g e1)
    | own ds => cases e
    | al i => cases e
  | [], _ :: _, _, _, hl, _, _ => by simp at hl
  | _ :: _, [], _, _, hl, _, _ => by simp at hl
theorem se_tup {es : List Expr} {fs : Env → R (List T)} {x1} {pos : Pos} (h : SA X m W es fs) : SE X m W (.Tuple es x1 pos) (eTup fs) := fun fm hm ρ σ τ F H Q g q => by
  obtain ⟨t, pa, r⟩ := h
  refine tE_of (pe_tup pa) (sa_bind (es := es) hm r g q fun ts ρ1 vs F' H' hl g' q' => ?_)
  split at q'
  · rename_i ds e
    split at q'
    · rename_i hz
      have rs := pushAll_shs hl g' e
      refine ⟨by rw [rs.length]; exact hz, fun p hp => ?_⟩
      have k := Grow.new (o := HO.tup vs) g'.FH hp
      exact q' _ _ _ (((pushAll_pop _ _ _ g').grow k).pushSh (.tup (SqT.of upd_same) (rs.mono k.FF)))
    · exact q'.elim
  · exact q'.elim
theorem se_lst {es : List Expr} {fs : Env → R (List T)} {pos : Pos} (h : SA X m W es fs) : SE X m W (.List es pos) (eLst fs) := fun fm hm ρ σ τ F H Q g q => by
  obtain ⟨t, pa, r⟩ := h
  refine tE_of (pe_lst pa) (sa_bind (es := es) hm r g q fun ts ρ1 vs F' H' hl g' q' => ?_)
  split at q'
  · rename_i ds e
    split at q'
    · rename_i hz
      have rs := pushAll_shs hl g' e
      refine ⟨by rw [rs.length]; exact hz, fun p hp => ?_⟩
      have k := Grow.newOwn (o := HO.lst vs) g'.FH hp
      exact q' _ _ _ ((pushAll_pop _ _ _ g').pushOwn k hp upd_same (none_of_same g'.FH hp) rs)
    · exact q'.elim
  · exact q'.elim
/-- a built-in's call -/
theorem opN_end {r : List V → Hp → VK → Prop} {op : List D → Option T} (hs : OpN (gX X) r op) {ts : List T} {vs : List V} {F H : Hp} {Q : VK} (hl : vs.length = ts.length) (g : Good (gX X) fm ρ σ (pushAll vs ts τ) F H)
    (q : PostE X fm W σ τ (opt ((views ρ ts).bind op) ρ) Q) : r vs H Q := by
  unfold opt at q
  split at q
  · rename_i t e
    obtain ⟨ds, e1, e2⟩ := Option.bind_eq_some_iff.mp e
    exact hs F H vs ds t Q g.FH (pushAll_views hl g e1) e2 fun v F2 H2 k rr => q v F2 H2 ((pushAll_pop _ _ _ g).res k rr)
  · exact q.elim
theorem se_callB {id : String} {r : List V → Hp → VK → Prop} {op : List D → Option T} {x : Str} {e : Expr} {es : List Expr} {fs : Env → R (List T)} {p pos : Pos} (hc : CallR X (.builtin id) r) (hs : OpN (gX X) r op) (hmg : X.mg x = none) (hv : bootBuiltins x = some (.builtin id)) (ha : SA X m W (e :: es) fs)
    (hg : Gl X x := by rfl) (hn : x ≠ "__name__" := by decide) (hdb : (x == ("__debug__" : Str)) = false := by decide)
    (he : starEach (e :: es) X.env = (false, eval e X.env) :: starEach es X.env := by rfl) (hpl : (backTo pos (starEach es X.env)).any (·.1) = false := by rfl) : SE X m W (.Call (.Name x p) (e :: es) [] pos) (eN op fs) := fun fm hm ρ σ τ F H Q g q => by
  obtain ⟨t, pa, rr⟩ := ha
  exact tE_of (pe_callB hc hg hmg hv pa hn hdb he hpl) (sa_bind (es := e :: es) hm rr g q fun ts ρ1 vs F' H' hl g' q' => opN_end hs hl g' q')
theorem se_callTy {id : String} {r : List V → Hp → VK → Prop} {op : List D → Option T} {x : Str} {e : Expr} {es : List Expr} {fs : Env → R (List T)} {p pos : Pos} (hc : CallR X (.type id) r) (hs : OpN (gX X) r op) (hmg : X.mg x = none) (hv : bootBuiltins x = some (.type id)) (ha : SA X m W (e :: es) fs)
    (hg : Gl X x := by rfl) (hn : x ≠ "__name__" := by decide) (hdb : (x == ("__debug__" : Str)) = false := by decide)
    (he : starEach (e :: es) X.env = (false, eval e X.env) :: starEach es X.env := by rfl) (hpl : (backTo pos (starEach es X.env)).any (·.1) = false := by rfl) : SE X m W (.Call (.Name x p) (e :: es) [] pos) (eN op fs) := fun fm hm ρ σ τ F H Q g q => by
  obtain ⟨t, pa, rr⟩ := ha
  exact tE_of (pe_callTy hc hg hmg hv pa hn hdb he hpl) (sa_bind (es := e :: es) hm rr g q fun ts ρ1 vs F' H' hl g' q' => opN_end hs hl g' q')
/-- a[b] -/
theorem se_ix {r : R2} {g : D → D → Option T} {a b : Expr} {fa fb : Env → R T} {pos : Pos} (hr : IxR X r) (hs : Op2 (gX X) r g) (ha : SE X m W a fa) (hb : SE X m W b fb) (hp : PlainIx b := by exact fun _ _ => rfl) : SE X m W (.Subscript a b pos) (e2 g fa fb) := fun fm hm ρ σ τ F H Q gd q =>
  tE_of (pe_ix hr pe_tE pe_tE hp) (se_two hm ha hb gd q fun ta tb ρ2 v u F' H' g' q' => op2_end hs g' q')

/-! ### truths -/
theorem bind_ok {α β : Type} {r : R α} {k : α → Env → R β} {b : β} {ρ' : Env} (h : r.bind k = .ok b ρ') : ∃ a ρ1, r = .ok a ρ1 ∧ k a ρ1 = .ok b ρ' := by
  cases r with
  | ok a ρ1 => exact ⟨a, ρ1, rfl, h⟩
  | ex x ρ1 => cases h
  | bad => cases h
theorem isBl_of {G : Cfg} {F H : Hp} {v : V} {d : D} {b : Bool} (r : RepV G F H v d) (e : isBl d = some b) : v = .bl b := by
  cases d with
  | bl c =>
    cases e
    rcases r with r | ⟨p, vs, ds, _, z, _⟩
    · cases r; rfl
    · cases z
  | _ => cases e
theorem good_isBl {G : Cfg} {F H : Hp} {v : V} {t : T} {b : Bool} (g : Good G fm ρ σ ((v, t) :: τ) F H) (e : (view ρ t).bind isBl = some b) : v = .bl b := by
  obtain ⟨d, e1, e2⟩ := Option.bind_eq_some_iff.mp e
  exact isBl_of (g.view e1) e2
theorem se_and1 {op : BoolOp} {a : Expr} {fa : Env → R T} {pos : Pos} (ha : SE X m W a fa) : SE X m W (.BoolOp op [a] pos) fa := fun fm hm ρ σ τ F H Q g q => tE_of (pe_one pe_tE) (ha fm hm ρ σ τ F H Q g q)
theorem se_and {a b : Expr} {rest : List Expr} {fa fb : Env → R T} {pos : Pos} (ha : SE X m W a fa) (hb : SE X m W (.BoolOp .And (b :: rest) pos) fb) : SE X m W (.BoolOp .And (a :: b :: rest) pos) (eAnd fa fb) := fun fm hm ρ σ τ F H Q g q => by
  refine tE_of (pe_and pe_tE pe_tE) (se_bind hm ha g q fun t ρ1 v F' H' g' q' => ?_)
  split at q'
  · rename_i e
    exact ⟨true, good_isBl g' e, by rw [if_pos rfl]; exact hb fm hm ρ1 σ τ F' H' Q g'.pop q'⟩
  · rename_i e
    exact ⟨false, good_isBl g' e, by rw [if_neg Bool.false_ne_true]; exact q' _ F' H' (g'.pop.pushSh .bl)⟩
  · exact q'.elim
theorem se_or {a b : Expr} {rest : List Expr} {fa fb : Env → R T} {pos : Pos} (ha : SE X m W a fa) (hb : SE X m W (.BoolOp .Or (b :: rest) pos) fb) : SE X m W (.BoolOp .Or (a :: b :: rest) pos) (eOr fa fb) := fun fm hm ρ σ τ F H Q g q => by
  refine tE_of (pe_or pe_tE pe_tE) (se_bind hm ha g q fun t ρ1 v F' H' g' q' => ?_)
  split at q'
  · rename_i e
    exact ⟨true, good_isBl g' e, by rw [if_pos rfl]; exact q' _ F' H' (g'.pop.pushSh .bl)⟩
  · rename_i e
    exact ⟨false, good_isBl g' e, by rw [if_neg Bool.false_ne_true]; exact hb fm hm ρ1 σ τ F' H' Q g'.pop q'⟩
  · exact q'.elim
theorem se_not {a : Expr} {fa : Env → R T} {pos : Pos} (ha : SE X m W a fa) : SE X m W (.UnaryOp .Not a pos) (eNot fa) := fun fm hm ρ σ τ F H Q g q => by
  refine tE_of (pe_not pe_tE) (se_bind hm ha g q fun t ρ1 v F' H' g' q' => ?_)
  split at q'
  · rename_i b e
    exact ⟨b, good_isBl g' e, q' _ F' H' (g'.pop.pushSh .bl)⟩
  · exact q'.elim
theorem tru_of {G : Cfg} {F H : Hp} {v : V} {d : D} {b : Bool} (f : Same F H) (r : RepV G F H v d) (e : truD d = some b) : TruV G.K v H b := by
  rcases r with r | ⟨p, vs, ds, rfl, rfl, h1, h2⟩
  · cases r with
    | non => cases e; rfl
    | bl => cases e; rfl
    | int => cases e; rfl
    | str =>
      rename_i y
      have e : (if y.length ≤ sizeLine then some ((y.length : Int) != 0) else none) = some b := e
      by_cases hz : y.length ≤ sizeLine
      · rw [if_pos hz] at e; cases e; exact ⟨hz, rfl⟩
      · rw [if_neg hz] at e; cases e
    | ty => cases e
    | lst h rs =>
      cases e
      refine .inl ⟨_, SqL.of (f _ _ h), ?_⟩
      cases rs <;> rfl
    | rol h rs => cases e
    | tup h rs =>
      cases e
      refine .inr (.inl ⟨_, sqT_mono f h, ?_⟩)
      cases rs <;> rfl
    | dk => cases e
    | ins => cases e
    | cls => cases e
  · cases e
    refine .inl ⟨_, SqL.of h1, ?_⟩
    cases h2 <;> rfl
theorem st_v {e : Expr} {fa : Env → R T} (h : SE X m W e fa) (he : ∀ whole, isTrue e X.env whole = (do let v ← whole; standAt e.pos; holding [v] (truthy v)) := by exact fun _ => rfl) : ST X m W e (cV fa) := fun fm hm ρ σ τ F H Q g q => by
  refine tT_of (pt_truth pe_tE he) (h fm hm ρ σ τ F H _ g ?_)
  unfold cV at q
  cases e1 : fa ρ with
  | ok t ρ1 =>
    rw [e1] at q
    intro v F' H' g'
    have q : PostT X fm W σ τ (opt ((view ρ1 t).bind truD) ρ1) Q := q
    cases e2 : (view ρ1 t).bind truD with
    | none => rw [e2] at q; exact q.elim
    | some b =>
      rw [e2] at q
      obtain ⟨d, e3, e4⟩ := Option.bind_eq_some_iff.mp e2
      exact ⟨b, tru_of g'.FH (g'.view e3) e4, q F' H' g'.pop⟩
  | ex x ρ1 =>
    rw [e1] at q
    exact q
  | bad =>
    rw [e1] at q
    exact q
/-- a test that is a comparison -/
def cB (fa : Env → R T) : Env → R Bool := fun ρ => (fa ρ).bind fun t ρ1 => opt ((view ρ1 t).bind isBl) ρ1
theorem cB_end {fa : Env → R T} {F H : Hp} {Q : Bool → Hp → Prop} (q : PostT X fm W σ τ (cB fa ρ) Q) : PostE X fm W σ τ (fa ρ) (fun x H' => ∃ k, x = .bl k ∧ Q k H') := by
  unfold cB at q
  cases e1 : fa ρ with
  | ok t ρ1 =>
    rw [e1] at q
    intro v F' H' g'
    have q : PostT X fm W σ τ (opt ((view ρ1 t).bind isBl) ρ1) Q := q
    cases e2 : (view ρ1 t).bind isBl with
    | none => rw [e2] at q; exact q.elim
    | some b =>
      rw [e2] at q
      exact ⟨b, good_isBl g' e2, q F' H' g'.pop⟩
  | ex x ρ1 =>
    rw [e1] at q
    exact q
  | bad =>
    rw [e1] at q
    exact q
theorem st_cmp {r : R2} {op : CmpOp} {g : D → D → Option T} {a b : Expr} {fa fb : Env → R T} {pos : Pos} (ho : OpR X (compareOp op) r) (hs : Op2 (gX X) r g) (ha : SE X m W a fa) (hb : SE X m W b fb) (hb0 : behindInMarks op b = false := by first | exact nomark _ | with_unfolding_all rfl) :
    ST X m W (.Compare a [op] [b] pos) (cB (e2 g fa fb)) := fun fm hm ρ σ τ F H Q gd q =>
  tT_of (pt_cmpR ho pe_tE pe_tE hb0) (se_two hm ha hb gd (cB_end (F := F) (H := H) q) fun ta tb ρ2 v u F' H' g' q' => op2_end hs g' q')
theorem st_not {a : Expr} {fa : Env → R Bool} {pos : Pos} (ha : ST X m W a fa) : ST X m W (.UnaryOp .Not a pos) (cNot fa) := fun fm hm ρ σ τ F H Q g q => by
  refine tT_of (L2.pt_not pt_tT) (ha fm hm ρ σ τ F H _ g ?_)
  unfold cNot at q
  cases e1 : fa ρ with
  | ok t ρ1 => rw [e1] at q; exact q
  | ex x ρ1 => rw [e1] at q; exact q
  | bad => rw [e1] at q; exact q
def tW (X : Cx) (e : Expr) : TT := fun σ H Q => ∀ whole pins s, Inv X pins σ H s → wpAny (model X.prog X.w) X.A (isTrue e X.env whole) (TP X pins σ Q) X.xe s
theorem pw_tW {e : Expr} : PW X e (tW X e) := ⟨fun whole pins s σ H Q I h => h whole pins s I⟩
def SW (X : Cx) (m : List Nat) (W : WX) (e : Expr) (f : Env → R Bool) : Prop := ∀ fm, Pins fm m → ∀ ρ σ τ F H Q, Good (gX X) fm ρ σ τ F H → PostT X fm W σ τ (f ρ) Q → tW X e σ H Q
theorem tW_of {e : Expr} {t : TT} (h : PW X e t) {σ : L2.St} {H : Hp} {Q : Bool → Hp → Prop} (q : t σ H Q) : tW X e σ H Q := fun whole pins s I => h.run whole pins s σ H Q I q
theorem st_w {e : Expr} {f : Env → R Bool} (h : SW X m W e f) : ST X m W e f := fun fm hm ρ σ τ F H Q g q => tT_of (PW.pt pw_tW) (h fm hm ρ σ τ F H Q g q)
theorem sw_and1 {a : Expr} {fa : Env → R Bool} {pos : Pos} (ha : ST X m W a fa) : SW X m W (.BoolOp .And [a] pos) fa := fun fm hm ρ σ τ F H Q g q => tW_of (pw_and1 pt_tT) (ha fm hm ρ σ τ F H Q g q)
theorem sw_or1 {a : Expr} {fa : Env → R Bool} {pos : Pos} (ha : ST X m W a fa) : SW X m W (.BoolOp .Or [a] pos) fa := fun fm hm ρ σ τ F H Q g q => tW_of (pw_or1 pt_tT) (ha fm hm ρ σ τ F H Q g q)
theorem sw_and {a b : Expr} {rest : List Expr} {fa fb : Env → R Bool} {pos : Pos} (ha : ST X m W a fa) (hb : SW X m W (.BoolOp .And (b :: rest) pos) fb) : SW X m W (.BoolOp .And (a :: b :: rest) pos) (cAnd fa fb) := fun fm hm ρ σ τ F H Q g q => by
  refine tW_of (pw_and pt_tT pw_tW) ?_
  show tT X a σ H fun x H1 => if x = true then tW X (.BoolOp .And (b :: rest) pos) σ H1 Q else Q false H1
  refine ha fm hm ρ σ τ F H _ g ?_
  unfold cAnd at q
  cases e1 : fa ρ with
  | ok t ρ1 =>
    rw [e1] at q
    intro F' H' g'
    cases t with
    | true => exact hb fm hm ρ1 σ τ F' H' Q g' q
    | false => exact q F' H' g'
  | ex x ρ1 => rw [e1] at q; exact q
  | bad => rw [e1] at q; exact q
theorem sw_or {a b : Expr} {rest : List Expr} {fa fb : Env → R Bool} {pos : Pos} (ha : ST X m W a fa) (hb : SW X m W (.BoolOp .Or (b :: rest) pos) fb) : SW X m W (.BoolOp .Or (a :: b :: rest) pos) (cOr fa fb) := fun fm hm ρ σ τ F H Q g q => by
  refine tW_of (pw_or pt_tT pw_tW) ?_
  show tT X a σ H fun x H1 => if x = true then Q true H1 else tW X (.BoolOp .Or (b :: rest) pos) σ H1 Q
  refine ha fm hm ρ σ τ F H _ g ?_
  unfold cOr at q
  cases e1 : fa ρ with
  | ok t ρ1 =>
    rw [e1] at q
    intro F' H' g'
    cases t with
    | true => exact q F' H' g'
    | false => exact hb fm hm ρ1 σ τ F' H' Q g' q
  | ex x ρ1 => rw [e1] at q; exact q
  | bad => rw [e1] at q; exact q
theorem se_if {c a b : Expr} {fc : Env → R Bool} {fa fb : Env → R T} {pos : Pos} (hc : ST X m W c fc) (ha : SE X m W a fa) (hb : SE X m W b fb) : SE X m W (.IfExp c a b pos) (eIf fc fa fb) := fun fm hm ρ σ τ F H Q g q => by
  refine tE_of (pe_ifExp pt_tT pe_tE pe_tE) ?_
  show tT X c σ H fun k H1 => if k = true then tE X a σ H1 Q else tE X b σ H1 Q
  refine hc fm hm ρ σ τ F H _ g ?_
  unfold eIf at q
  cases e1 : fc ρ with
  | ok t ρ1 =>
    rw [e1] at q
    intro F' H' g'
    cases t with
    | true => exact ha fm hm ρ1 σ τ F' H' Q g' q
    | false => exact hb fm hm ρ1 σ τ F' H' Q g' q
  | ex x ρ1 => rw [e1] at q; exact q
  | bad => rw [e1] at q; exact q
end
end Pf

namespace Pf
open PySem PySem.Spec L2

section
variable {G : Cfg} {σ σ' : L2.St} {F H F' H' : Hp} {ρ ρ' : Env} {τ τ' : List (V × T)} {A : List Addr} {v : V} {t : T} {fm : Fm} {m : List Nat}
/-- what is shared now is shared at the entry, for a while -/
theorem Good.rebase (g : Good G fm ρ σ τ F H) : Good G { fm with F0 := F } ρ σ τ F H :=
  ⟨g.FH, Same.refl F, g.keep, fun _ _ h => h, g.live, g.pin, g.lent, g.lb, g.own⟩
theorem Good.unbase {F0 : Hp} (g0 : Good G fm ρ' σ' τ' F0 H) (g : Good G { fm with F0 := F0 } ρ σ τ F' H') : Good G fm ρ σ τ F' H' ∧ Same F0 F' :=
  ⟨⟨g.FH, g0.F0.trans g.F0, g.keep, fun a h1 h2 => g.hid a h1 (g0.hid a h1 h2), g.live, g.pin, g.lent, g.lb, g.own⟩, g.F0⟩

/-- the slot i takes the temporary -/
theorem RepS.put_sh {d : D} (h : RepS G F H σ ρ A) (r : Rep G F v d) : ∀ i, ∃ B, RepS G F H (σ.set i (some v)) (ρ.set i (some (.sh d))) B ∧ B.Sublist A := by
  induction h with
  | nil => exact fun i => ⟨[], .nil, .slnil⟩
  | skip h ih =>
    intro i
    cases i with
    | zero => exact ⟨_, .sh r h, List.Sublist.refl _⟩
    | succ i => obtain ⟨B, b1, b2⟩ := ih i; exact ⟨B, .skip b1, b2⟩
  | sh r' h ih =>
    intro i
    cases i with
    | zero => exact ⟨_, .sh r h, List.Sublist.refl _⟩
    | succ i => obtain ⟨B, b1, b2⟩ := ih i; exact ⟨B, .sh r' b1, b2⟩
  | own h1 h2 h3 h ih =>
    intro i
    cases i with
    | zero => exact ⟨_, .sh r h, List.sublist_cons_self _ _⟩
    | succ i => obtain ⟨B, b1, b2⟩ := ih i; exact ⟨_, .own h1 h2 h3 b1, b2.cons_cons _⟩
theorem RepS.put_own {p : Addr} {vs : List V} {ds : List D} (h : RepS G F H σ ρ A) (q1 : H p = some (.lst vs)) (q2 : F p = none) (q3 : Reps G F vs ds) : ∀ i, ∃ B B', RepS G F H (σ.set i (some (.ref p))) (ρ.set i (some (.own ds))) B ∧ B'.Sublist A ∧ (B = B' ∨ B.Perm (p :: B')) := by
  induction h with
  | nil => exact fun i => ⟨[], [], .nil, .slnil, .inl rfl⟩
  | skip h ih =>
    intro i
    cases i with
    | zero => exact ⟨_, _, .own q1 q2 q3 h, List.Sublist.refl _, .inr (List.Perm.refl _)⟩
    | succ i => obtain ⟨B, B', b1, b2, b3⟩ := ih i; exact ⟨B, B', .skip b1, b2, b3⟩
  | sh r' h ih =>
    intro i
    cases i with
    | zero => exact ⟨_, _, .own q1 q2 q3 h, List.Sublist.refl _, .inr (List.Perm.refl _)⟩
    | succ i => obtain ⟨B, B', b1, b2, b3⟩ := ih i; exact ⟨B, B', .sh r' b1, b2, b3⟩
  | own h1 h2 h3 h ih =>
    rename_i p0 _ _ _ _ _
    intro i
    cases i with
    | zero => exact ⟨_, _, .own q1 q2 q3 h, List.sublist_cons_self _ _, .inr (List.Perm.refl _)⟩
    | succ i =>
      obtain ⟨B, B', b1, b2, b3⟩ := ih i
      refine ⟨_, p0 :: B', .own h1 h2 h3 b1, b2.cons_cons _, ?_⟩
      rcases b3 with rfl | b3
      · exact .inl rfl
      · exact .inr ((b3.cons p0).trans (List.Perm.swap _ _ _))
theorem lent_set (g : Good G fm ρ σ τ F H) (hm : Pins fm m) {i : Nat} (hi : i ∉ m) (o : Option T) : ∀ pr ∈ fm.m, ∃ ds, (ρ.set i o)[pr.1]? = some (some (.own ds)) := fun pr hp => by
  obtain ⟨ds', m2⟩ := g.lent pr hp
  refine ⟨ds', ?_⟩
  have hj : i ≠ pr.1 := by rintro rfl; exact hi (hm _ hp)
  rw [List.getElem?_set_ne hj]; exact m2
theorem pin_set (g : Good G fm ρ σ τ F H) (hm : Pins fm m) {i : Nat} (hi : i ∉ m) (o : Option V) : ∀ p ∈ fm.m, (σ.set i o)[p.1]? = some (some p.2) := fun p hp => by
  have hj : i ≠ p.1 := by rintro rfl; exact hi (hm _ hp)
  rw [List.getElem?_set_ne hj]; exact g.pin p hp
theorem RepL.restore (h : RepL G σ F H τ A) (na : NoAls τ) (σ' : L2.St) : RepL G σ' F H τ A := by
  induction h with
  | nil => exact .nil
  | cons r _ ih =>
    refine .cons ?_ (ih (fun x hx => na x (List.mem_cons_of_mem _ hx)))
    cases r with
    | sh r => exact .sh r
    | own a b c => exact .own a b c
    | al q => exact absurd (na _ (List.mem_cons_self ..)) Bool.false_ne_true
theorem Good.putSh {d : D} (hm : Pins fm m) {i : Nat} (hi : i ∉ m) (g : Good G fm ρ σ ((v, .sh d) :: τ) F H) (na : NoAls τ) : Good G fm (ρ.set i (some (.sh d))) (σ.set i (some v)) τ F H := by
  obtain ⟨A1, A2, s, l, nd, k⟩ := id g.own
  cases l with
  | cons r l =>
    cases r with
    | sh r =>
      obtain ⟨B, b1, b2⟩ := s.put_sh r i
      refine ⟨g.FH, g.F0, g.keep, g.hid, g.live, pin_set g hm hi _, lent_set g hm hi _, g.lb, B, _, b1, l.restore na _, nd.sublist (List.Sublist.append_right b2 _), fun a ha => k a ?_⟩
      rcases List.mem_append.mp ha with ha | ha
      · exact List.mem_append_left _ (b2.subset ha)
      · exact List.mem_append_right _ ha
theorem Good.putOwn {ds : List D} (hm : Pins fm m) {i : Nat} (hi : i ∉ m) (g : Good G fm ρ σ ((v, .own ds) :: τ) F H) (na : NoAls τ) : Good G fm (ρ.set i (some (.own ds))) (σ.set i (some v)) τ F H := by
  obtain ⟨A1, A2, s, l, nd, k⟩ := id g.own
  cases l with
  | cons r l =>
    rename_i A B0
    cases r with
    | own h1 h2 h3 =>
      rename_i p vs
      obtain ⟨B, B', b1, b2, b3⟩ := s.put_own h1 h2 h3 i
      have nd' : (p :: (A1 ++ B0)).Nodup := (List.Perm.nodup_iff List.perm_middle).mp nd
      have sub : (p :: (B' ++ B0)).Sublist (p :: (A1 ++ B0)) := (List.Sublist.append_right b2 _).cons_cons _
      have nd2 := nd'.sublist sub
      refine ⟨g.FH, g.F0, g.keep, g.hid, g.live, pin_set g hm hi _, lent_set g hm hi _, g.lb, B, B0, b1, l.restore na _, ?_, fun a ha => ?_⟩
      · rcases b3 with rfl | b3
        · exact (List.nodup_cons.mp nd2).2
        · exact (List.Perm.nodup_iff (b3.append_right B0)).mpr nd2
      · have : a ∈ p :: (B' ++ B0) := by
          rcases List.mem_append.mp ha with ha | ha
          · rcases b3 with rfl | b3
            · exact List.mem_cons_of_mem _ (List.mem_append_left _ ha)
            · rcases List.mem_cons.mp (b3.mem_iff.mp ha) with rfl | h
              · exact List.mem_cons_self ..
              · exact List.mem_cons_of_mem _ (List.mem_append_left _ h)
          · exact List.mem_cons_of_mem _ (List.mem_append_right _ ha)
        refine k a ?_
        have := sub.subset this
        rcases List.mem_cons.mp this with rfl | h
        · exact List.mem_append_right _ (List.mem_append_left _ (List.mem_cons_self ..))
        · rcases List.mem_append.mp h with h | h
          · exact List.mem_append_left _ h
          · exact List.mem_append_right _ (List.mem_append_right _ h)
/-- a slot is forgotten -/
theorem Good.drop {i : Nat} (hm : Pins fm m) (hi : i ∉ m) (g : Good G fm ρ σ τ F H) (o : Option V) (na : NoAls τ) : Good G fm (ρ.set i none) (σ.set i o) τ F H := by
  obtain ⟨A1, A2, s, l, nd, k⟩ := id g.own
  obtain ⟨B, b1, b2⟩ := s.set_none i o
  refine ⟨g.FH, g.F0, g.keep, g.hid, g.live, pin_set g hm hi _, lent_set g hm hi _, g.lb, B, _, b1, l.restore na _, nd.sublist (List.Sublist.append_right b2 _), fun a ha => k a ?_⟩
  rcases List.mem_append.mp ha with ha | ha
  · exact List.mem_append_left _ (b2.subset ha)
  · exact List.mem_append_right _ ha
/-- the list of a slot is changed -/
theorem Good.mutate {i : Nat} {ds : List D} (g : Good G fm ρ σ τ F H) (e : ρ[i]? = some (some (.own ds))) : ∃ p vs, σ[i]? = some (some (.ref p)) ∧ H p = some (.lst vs) ∧ Reps G F vs ds ∧
    ∀ vs' ds', Reps G F vs' ds' → Good G fm (ρ.set i (some (.own ds'))) σ τ F (upd H p (.lst vs')) := by
  obtain ⟨A1, A2, s, l, nd, k⟩ := id g.own
  obtain ⟨p, vs, B1, B2, e1, e2, e3, e4, e5, k1, k2, k3, k4⟩ := s.at_own e (List.nodup_append.mp nd).1
  refine ⟨p, vs, e2, e3, e5, fun vs' ds' r => ?_⟩
  subst e1
  obtain ⟨nd2, n1, n2⟩ := nd_mid nd
  refine ⟨fun a o q => ?_, g.F0, fun a o q n => ?_, g.hid, fun a h => ?_, g.pin, fun pr hp => ?_, g.lb, B1 ++ p :: B2, A2, ?_, ?_, nd, k⟩
  · rw [upd_ne (ne_of_none q e4)]; exact g.FH _ _ q
  · by_cases ha : a = p
    · subst ha
      rcases k a (List.mem_append_left _ (List.mem_append_right _ (List.mem_cons_self ..))) with z | z
      · rw [z] at q; cases q
      · exact absurd z n
    · rw [upd_ne ha]; exact g.keep _ _ q n
  · by_cases ha : a = p
    · subst ha; rw [upd_same]; exact fun z => nomatch z
    · rw [upd_ne ha]; exact g.live a h
  · obtain ⟨ds2, m2⟩ := g.lent pr hp
    by_cases hj : i = pr.1
    · refine ⟨ds', ?_⟩
      have hlt : i < ρ.length := (List.getElem?_eq_some_iff.mp e).1
      rw [← hj, List.getElem?_set_self hlt]
    · exact ⟨ds2, by rw [List.getElem?_set_ne hj]; exact m2⟩
  · refine k2 _ _ (Same.refl _) (fun a ha => upd_ne ?_) (fun a ha => (s.mem a ha).1) vs' ds' upd_same r
    rintro rfl; exact n1 ha
  · refine l.mono (Same.refl _) (fun a ha o q => ?_) fun a ha => (l.mem a ha).1
    rw [upd_ne (show a ≠ p by rintro rfl; exact n2 ha)]; exact q
end

/-! ### denotations of statements -/
def RS.bind (r : RS) (k : Env → RS) : RS := match r with
  | .nx ρ => k ρ
  | r => r
def R.s {α : Type} (r : R α) (k : α → Env → RS) : RS := match r with
  | .ok a ρ => k a ρ
  | .ex x ρ => .ex x ρ
  | .bad => .bad
def sNil : Env → RS := fun ρ => .nx ρ
def sSeq (g h : Env → RS) : Env → RS := fun ρ => (g ρ).bind h
/-- the temporary, no alias any more; a slot of one's own is shared -/
def put (m : List Nat) (i : Nat) (t : T) (ρ : Env) : RS := match t with
  | .sh d => .nx (ρ.set i (some (.sh d)))
  | .own ds => .nx (ρ.set i (some (.own ds)))
  | .al j => match frz m ρ (.al j) with
    | some (d, ρ1) => .nx (ρ1.set i (some (.sh d)))
    | none => .bad
def sSet (m : List Nat) (i : Nat) (fa : Env → R T) : Env → RS := fun ρ => (fa ρ).s fun t ρ1 => put m i t ρ1
def sExpr (fa : Env → R T) : Env → RS := fun ρ => (fa ρ).s fun _ ρ1 => .nx ρ1
def sIf (c : Env → R Bool) (g h : Env → RS) : Env → RS := fun ρ => (c ρ).s fun b ρ1 => if b = true then g ρ1 else h ρ1
/-- what is handed back: a slot's own list goes along -/
def ret (m : List Nat) (t : T) (ρ : Env) : RS := match t with
  | .sh d => .rt (.sh d) ρ
  | .own ds => .rt (.own ds) ρ
  | .al j => match ρ[j]? with
    | some (some (.sh d)) => .rt (.sh d) ρ
    | some (some (.own ds)) => if j ∈ m then .bad else .rt (.own ds) (ρ.set j none)
    | _ => .bad
def sRet (m : List Nat) (fa : Env → R T) : Env → RS := fun ρ => (fa ρ).s fun t ρ1 => ret m t ρ1
def sRetN : Env → RS := fun ρ => .rt (.sh .non) ρ

end Pf

namespace Pf
open PySem PySem.Spec L2

structure Cok (X : Cx) : Prop where
  calm : X.calm = true
  pass : PassesOwn (model X.prog X.w) X.A X.env X.xe
  nd : X.N.Nodup

section
variable {X : Cx} {fm : Fm} {m : List Nat} {W : WX} {σ : L2.St} {τ : List (V × T)} {ρ : Env}
theorem ss_s {a : Expr} {fa : Env → R T} (hm : Pins fm m) (ha : SE X m W a fa) {F H : Hp} (g : Good (gX X) fm ρ σ τ F H) {k : T → Env → RS} {D : Ends} (q : PostS X fm W τ ((fa ρ).s k) D) {Q1 : VK}
    (h : ∀ t ρ1 v F' H', Good (gX X) fm ρ1 σ ((v, t) :: τ) F' H' → PostS X fm W τ (k t ρ1) D → Q1 v H') : tE X a σ H Q1 := by
  refine ha fm hm ρ σ τ F H Q1 g ?_
  cases e : fa ρ with
  | ok t ρ1 =>
    rw [e] at q
    exact fun v F' H' g' => h t ρ1 v F' H' g' q
  | ex x ρ1 =>
    rw [e] at q
    exact q σ
  | bad =>
    rw [e] at q
    exact q
theorem NoAls.cons {v : V} {d : D} (na : NoAls τ) : NoAls ((v, .sh d) :: τ) := fun x hx => by
  rcases List.mem_cons.mp hx with rfl | hx
  · rfl
  · exact na x hx

/-- the store of a temporary -/
theorem put_end (hm : Pins fm m) {i : Nat} (hi : i ∉ m) (na : NoAls τ) {v : V} {t : T} {F H : Hp} {D : Ends} (g : Good (gX X) fm ρ σ ((v, t) :: τ) F H) (q : PostS X fm W τ (put m i t ρ) D) : D.nx (σ.set i (some v)) H := by
  cases t with
  | sh d => exact q _ F H (g.putSh hm hi na)
  | own ds => exact q _ F H (g.putOwn hm hi na)
  | al j =>
    have q : PostS X fm W τ (match frz m ρ (.al j) with | some (d, ρ1) => RS.nx (ρ1.set i (some (.sh d))) | none => .bad) D := q
    cases e : frz m ρ (.al j) with
    | none => rw [e] at q; exact q.elim
    | some r =>
      obtain ⟨d, ρ1⟩ := r
      rw [e] at q
      obtain ⟨F', g'⟩ := g.frz hm e
      exact q _ F' H (g'.putSh hm hi na)
theorem ss_set (cx : Cok X) (i : Nat) {x : Str} {e : Expr} {fa : Env → R T} {pos pos' : Pos} (he : SE X m W e fa) (hi : i ∉ m := by decide) (hN : X.N[i]? = some x := by rfl) (hx : Loc X.env.scope x := by first | exact Or.inl rfl | exact Or.inr rfl)
    (hs : swapsWith e (some (.Name x pos')) pos.line X.env = pure false := by rfl) (hf : X.fn x = true ∨ X.env.scope.names.lookup x = some .local := by first | exact .inl rfl | exact .inr rfl) : SS X m W (.Assign [.Name x pos'] e pos) (sSet m i fa) := fun fm hm ρ σ τ F H D na g q =>
  tS_of (ps_set cx.nd hN hx pe_tE hs hf) (ss_s hm he g q fun t ρ1 v F' H' g' q' => put_end hm hi na g' q')
theorem ss_expr {e : Expr} {fa : Env → R T} {pos : Pos} (he : SE X m W e fa) (hs : swapsWith e none pos.line X.env = pure false := by rfl) : SS X m W (.Expr e pos) (sExpr fa) := fun fm hm ρ σ τ F H D na g q =>
  tS_of (ps_expr pe_tE hs) (ss_s hm he g q fun t ρ1 v F' H' g' q' => q' σ F' H' g'.pop)
theorem ss_pass {pos : Pos} : SS X m W (.Pass pos) sNil := fun fm hm ρ σ τ F H D na g q => tS_of ps_pass (q σ F H g)
def sBreak : Env → RS := fun ρ => .bk ρ
def sCont : Env → RS := fun ρ => .ct ρ
theorem ss_break {pos : Pos} : SS X m W (.Break pos) sBreak := fun fm hm ρ σ τ F H D na g q => tS_of ps_break (q σ F H g)
theorem ss_cont {pos : Pos} : SS X m W (.Continue pos) sCont := fun fm hm ρ σ τ F H D na g q => tS_of ps_continue (q σ F H g)
theorem set_self {i : Nat} {o : Option V} (h : σ[i]? = some o) : σ.set i o = σ := by
  apply List.ext_getElem?
  intro j
  by_cases hj : i = j
  · subst hj
    rw [List.getElem?_set_self (List.getElem?_eq_some_iff.mp h).1, h]
  · rw [List.getElem?_set_ne hj]
/-- a slot's own list goes along as the temporary -/
theorem Good.move {G : Cfg} {F H : Hp} (hm : Pins fm m) {i : Nat} {ds : List D} {v : V} (hi : i ∉ m) (g : Good G fm ρ σ τ F H) (e : ρ[i]? = some (some (.own ds))) (hv : σ[i]? = some (some v)) : Good G fm (ρ.set i none) σ ((v, .own ds) :: τ) F H := by
  obtain ⟨A1, A2, s, l, nd, k⟩ := id g.own
  obtain ⟨p, vs, B1, B2, e1, e2, e3, e4, e5, k1, k2, k3, k4⟩ := s.at_own e (List.nodup_append.mp nd).1
  rw [hv] at e2; cases e2
  subst e1
  have hs := k3 F H (some (.ref p)) (Same.refl _) (fun _ _ => rfl) (fun a ha => (s.mem a (by rcases List.mem_append.mp ha with h | h; exact List.mem_append_left _ h; exact List.mem_append_right _ (List.mem_cons_of_mem _ h))).1)
  rw [set_self hv] at hs
  have pm : ((B1 ++ p :: B2) ++ A2).Perm ((B1 ++ B2) ++ ([p] ++ A2)) := by
    simp only [List.append_assoc, List.cons_append, List.nil_append]
    refine List.Perm.append_left _ ?_
    exact (List.perm_middle (l₁ := B2) (l₂ := A2) (a := p)).symm
  exact ⟨g.FH, g.F0, g.keep, g.hid, g.live, g.pin, lent_set g hm hi _, g.lb, B1 ++ B2, [p] ++ A2, hs, .cons (.own e3 e4 e5) l, (List.Perm.nodup_iff pm).mp nd, fun a ha => k a (pm.mem_iff.mpr ha)⟩
theorem ret_end (hm : Pins fm m) {v : V} {t : T} {F H : Hp} {D : Ends} (g : Good (gX X) fm ρ σ ((v, t) :: τ) F H) (q : PostS X fm W τ (ret m t ρ) D) : D.rt v H := by
  cases t with
  | sh d => exact q v σ F H g
  | own ds => exact q v σ F H g
  | al j =>
    obtain ⟨A1, A2, s, l, nd, k⟩ := id g.own
    have hv : σ[j]? = some (some v) := by
      cases l with
      | cons r _ => cases r with | al q => exact q
    have q : PostS X fm W τ (match ρ[j]? with | some (some (.sh d)) => RS.rt (.sh d) ρ | some (some (.own ds)) => if j ∈ m then .bad else .rt (.own ds) (ρ.set j none) | _ => .bad) D := q
    split at q
    · rename_i d e
      obtain ⟨v', e1, r⟩ := s.get e
      rw [hv] at e1; cases e1
      rcases r with ⟨d', e2, r⟩ | ⟨p, vs, ds, e2, _⟩
      · cases e2; exact q v σ F H (g.pop.pushSh r)
      · cases e2
    · rename_i ds e
      split at q
      · exact q.elim
      · rename_i hi
        exact q v σ F H (g.pop.move hm hi e hv)
    · exact q.elim
theorem ss_ret {e : Expr} {fa : Env → R T} {pos : Pos} (he : SE X m W e fa) : SS X m W (.Return (some e) pos) (sRet m fa) := fun fm hm ρ σ τ F H D na g q =>
  tS_of (ps_ret pe_tE) (ss_s hm he g q fun t ρ1 v F' H' g' q' => ret_end hm g' q')
theorem ss_retN {pos : Pos} : SS X m W (.Return none pos) sRetN := fun fm hm ρ σ τ F H D na g q => tS_of ps_retN (q .non σ F H (g.pushSh .non))
theorem ss_if {c : Expr} {a b : List Stmt} {fc : Env → R Bool} {ga gb : Env → RS} {pos : Pos} (hc : ST X m W c fc) (ha : SSs X m W a ga) (hb : SSs X m W b gb) : SS X m W (.If c a b pos) (sIf fc ga gb) := fun fm hm ρ σ τ F H D na g q => by
  refine tS_of (ps_if pt_tT pss_tSs pss_tSs) ?_
  show tT X c σ H fun k H1 => if k = true then tSs X a D σ H1 else tSs X b D σ H1
  refine hc fm hm ρ σ τ F H _ g ?_
  have q : PostS X fm W τ ((fc ρ).s fun b ρ1 => if b = true then ga ρ1 else gb ρ1) D := q
  cases e1 : fc ρ with
  | ok t ρ1 =>
    rw [e1] at q
    intro F' H' g'
    cases t with
    | true => exact ha fm hm ρ1 σ τ F' H' D na g' q
    | false => exact hb fm hm ρ1 σ τ F' H' D na g' q
  | ex x ρ1 => rw [e1] at q; exact q σ
  | bad => rw [e1] at q; exact q
theorem sss_nil : SSs X m W [] sNil := fun fm hm ρ σ τ F H D na g q => tSs_of pss_nil (q σ F H g)
theorem sss_cons {st : Stmt} {rest : List Stmt} {g h : Env → RS} (h1 : SS X m W st g) (h2 : SSs X m W rest h) : SSs X m W (st :: rest) (sSeq g h) := fun fm hm ρ σ τ F H D na gd q => by
  refine tSs_of (pss_cons ps_tS pss_tSs) ?_
  refine h1 fm hm ρ σ τ F H _ na gd ?_
  have q : PostS X fm W τ ((g ρ).bind h) D := q
  cases e : g ρ with
  | nx ρ1 =>
    rw [e] at q
    exact fun σ' F' H' g' => h2 fm hm ρ1 σ' τ F' H' D na g' q
  | rt t ρ1 => rw [e] at q; exact q
  | bk ρ1 => rw [e] at q; exact q
  | ct ρ1 => rw [e] at q; exact q
  | ex x ρ1 => rw [e] at q; exact q
  | bad => rw [e] at q; exact q
theorem sss_one {st : Stmt} {g : Env → RS} (h1 : SS X m W st g) : SSs X m W [st] g := fun fm hm ρ σ τ F H D na gd q => tSs_of (pss_one ps_tS) (h1 fm hm ρ σ τ F H D na gd q)

/-! ### what is walked -/
def Feeds (G : Cfg) (fm : Fm) (J : It) (ι : List (V × T)) (items : List D) : Prop :=
  ∀ (i : Nat) (ρ : Env) (σ : L2.St) (τ : List (V × T)) (F H : Hp), Good G fm ρ σ (ι ++ τ) F H →
    (∀ d, items[i]? = some d → J.go i H ∧ ∀ x H', J.yld i H x H' → ∃ F', Grow F H F' H' ∧ Rep G F' x d) ∧ (items.length ≤ i → J.stop i H)
def PostI (X : Cx) (fm : Fm) (W : WX) (σ : L2.St) (τ : List (V × T)) (r : R (List D)) (Q : It → Hp → Prop) : Prop := match r with
  | .ok items ρ' => ∀ J ι F' H', NoAls ι → Good (gX X) fm ρ' σ (ι ++ τ) F' H' → (∀ F0, Feeds (gX X) { fm with F0 := F0 } J ι items) → Q J H'
  | .ex x ρ' => PostX X fm W σ τ x ρ'
  | .bad => False
def SI (X : Cx) (m : List Nat) (W : WX) (tg iter : Expr) (f : Env → R (List D)) : Prop := ∃ wi, PI X tg iter wi ∧ ∀ fm, Pins fm m → ∀ ρ σ τ F H Q, Good (gX X) fm ρ σ τ F H → PostI X fm W σ τ (f ρ) Q → wi σ H Q
/-- where an item goes -/
def SGd (G : Cfg) (m : List Nat) (g : TG) (gt : D → Env → Option Env) : Prop := ∀ fm, Pins fm m → ∀ ρ σ τ F H v d ρ' (Q : L2.St → Hp → Prop), NoAls τ → Good G fm ρ σ τ F H → Rep G F v d → gt d ρ = some ρ' → (∀ σ' F' H', Good G fm ρ' σ' τ F' H' → Q σ' H') → g v σ H Q
def gN (i : Nat) : D → Env → Option Env := fun d ρ => some (ρ.set i (some (.sh d)))
theorem sg_name {G : Cfg} (i : Nat) (hi : i ∉ m := by decide) : SGd G m (gName i) (gN i) := fun fm hm ρ σ τ F H v d ρ' Q na g r e q => by
  cases e
  exact q _ F H ((g.pushSh r).putSh hm hi na)
def gsNil : List D → Env → Option Env := fun ds ρ => if ds = [] then some ρ else none
end
end Pf

namespace Pf
open PySem PySem.Spec L2

section
variable {X : Cx} {fm : Fm} {m : List Nat} {W : WX} {σ : L2.St} {τ : List (V × T)} {ρ : Env}

/-! ### lists, tuples, texts -/
def iAny (K : PySem.W.Frag) (tl : TE) : TI := fun σ H R => tl σ H fun x H1 => (∃ a, x = .ref a ∧ (∃ xs, SqL K H1 a xs) ∧ R (Itl K a) H1) ∨ (∃ a, x = .ref a ∧ (∃ xs, SqT K H1 a xs) ∧ R (Itt K a) H1) ∨ ∃ y, x = .str y ∧ R (Its y) H1
theorem pi_any {tg l : Expr} {tl : TE} (hl : PE X l tl) : PI X tg l (iAny X.K tl) := by
  refine ⟨fun pins s σ H R I h => ?_⟩
  refine thn (hl.run pins s σ H _ I h) fun v s1 ⟨x, H1, I1, r1, q1⟩ => ?_
  rcases q1 with ⟨a, e, ⟨xs, hq⟩, q⟩ | ⟨a, e, ⟨xs, hq⟩, q⟩ | ⟨y, e, q⟩
  · subst e
    cases r1
    obtain ⟨its, rv, p, hz⟩ := I1.list hq
    refine wpAny_pyIter_list p.isList ?_
    refine ⟨s1.heap.objs.size, [s1.heap.objs.size], _, _, H1, rfl, I1.kept (t' := s1.toks) fun b o e => Heap.get?_push_of_some _ e, turn_list a _, ⟨_, Heap.get?_push_size _ rfl, rfl, rfl⟩, fun b hb => ?_, q⟩
    have e : b = s1.heap.objs.size := by simpa using hb
    subst e
    exact I1.fpOk (Nat.le_refl _) (I1.hok.fresh (Nat.le_refl _))
  · subst e
    cases r1
    obtain ⟨its, rv, p, hz⟩ := I1.tuple hq
    refine wpAny_pyIter_tuple (show s1.heap.IsTuple a its.toArray from p) ?_
    refine ⟨s1.heap.objs.size, [s1.heap.objs.size], _, _, H1, rfl, I1.kept (t' := s1.toks) fun b o e => Heap.get?_push_of_some _ e, turn_tuple a _, ⟨_, Heap.get?_push_size _ rfl, rfl, rfl⟩, fun b hb => ?_, q⟩
    have e : b = s1.heap.objs.size := by simpa using hb
    subst e
    exact I1.fpOk (Nat.le_refl _) (I1.hok.fresh (Nat.le_refl _))
  · subst e
    obtain ⟨t, rfl⟩ := r1
    cases ha : y.cps.all (· < 128)
    · exact wpAny_pyIter_wide ha (pi_one (tk := s1.toks) I1 _ (turn_str _ y t "str_iterator" (.inr rfl)) ⟨_, Heap.get?_push_size _ rfl, rfl, rfl⟩ q)
    · exact wpAny_pyIter_ascii ha (pi_one (tk := s1.toks) I1 _ (turn_str _ y t "str_ascii_iterator" (.inl rfl)) ⟨_, Heap.get?_push_size _ rfl, rfl, rfl⟩ q)
/-- the items of what is walked -/
def signD (c : Nat) : D := .str ⟨#[c]⟩
def itemsD : D → Option (List D)
  | .lst xs => some xs
  | .rol xs => some xs
  | .tup xs => some xs
  | .str y => some (y.cps.toList.map signD)
  | _ => none
def iSeq (m : List Nat) (fa : Env → R T) : Env → R (List D) := fun ρ => (eF m fa ρ).bind fun t ρ1 => opt ((view ρ1 t).bind itemsD) ρ1

theorem Good.topSh {G : Cfg} {F H : Hp} {v : V} {d : D} (g : Good G fm ρ σ ((v, .sh d) :: τ) F H) : Rep G F v d := by
  obtain ⟨_, _, _, l, _, _⟩ := g.own
  cases l with
  | cons r _ => cases r with | sh r => exact r
theorem Reps.getLt {G : Cfg} {F : Hp} {vs : List V} {ds : List D} (r : Reps G F vs ds) {i : Nat} {d : D} (h : ds[i]? = some d) : ∃ v, vs[i]? = some v ∧ Rep G F v d := r.get h
/-- what the iterator over v gives -/
theorem feeds_of {G : Cfg} {v : V} {d : D} {items : List D} {F0 H0 : Hp} {ρ0 : Env} {σ0 : L2.St} {τ0 : List (V × T)} (e : itemsD d = some items) (g0 : Good G fm ρ0 σ0 ((v, .sh d) :: τ0) F0 H0) :
    ∃ J : It, ((∃ a, v = .ref a ∧ (∃ xs, SqL G.K H0 a xs) ∧ J = Itl G.K a) ∨ (∃ a, v = .ref a ∧ (∃ xs, SqT G.K H0 a xs) ∧ J = Itt G.K a) ∨ ∃ y, v = .str y ∧ J = Its y) ∧ ∀ F1, Feeds G { fm with F0 := F1 } J [(v, .sh d)] items := by
  have r0 := g0.topSh
  cases r0 with
  | lst h rs =>
    cases e
    rename_i p vs
    refine ⟨Itl G.K p, .inl ⟨p, rfl, ⟨vs, SqL.of (g0.FH _ _ h)⟩, rfl⟩, fun F1 i ρ σ τ F H g => ?_⟩
    cases g.topSh with
    | lst h rs =>
      refine ⟨fun d e => ?_, fun hi => ⟨_, SqL.of (g.FH _ _ h), by rw [rs.length]; exact hi⟩⟩
      obtain ⟨x, e1, r⟩ := rs.get e
      exact ⟨⟨_, x, SqL.of (g.FH _ _ h), e1⟩, fun y H' hy => by
        obtain ⟨rfl, hy⟩ := hy
        have := hy _ (SqL.of (g.FH _ _ h))
        rw [e1] at this; cases this
        exact ⟨F, Grow.refl g.FH, r⟩⟩
  | rol h rs =>
    cases e
    rename_i p vs
    refine ⟨Itl G.K p, .inl ⟨p, rfl, ⟨vs, sqL_mono g0.FH h⟩, rfl⟩, fun F1 i ρ σ τ F H g => ?_⟩
    cases g.topSh with
    | rol h rs =>
      refine ⟨fun d e => ?_, fun hi => ⟨_, sqL_mono g.FH h, by rw [rs.length]; exact hi⟩⟩
      obtain ⟨x, e1, r⟩ := rs.get e
      exact ⟨⟨_, x, sqL_mono g.FH h, e1⟩, fun y H' hy => by
        obtain ⟨rfl, hy⟩ := hy
        have := hy _ (sqL_mono g.FH h)
        rw [e1] at this; cases this
        exact ⟨F, Grow.refl g.FH, r⟩⟩
  | tup h rs =>
    cases e
    rename_i p vs
    refine ⟨Itt G.K p, .inr (.inl ⟨p, rfl, ⟨vs, sqT_mono g0.FH h⟩, rfl⟩), fun F1 i ρ σ τ F H g => ?_⟩
    cases g.topSh with
    | tup h rs =>
      refine ⟨fun d e => ?_, fun hi => ⟨_, sqT_mono g.FH h, by rw [rs.length]; exact hi⟩⟩
      obtain ⟨x, e1, r⟩ := rs.get e
      exact ⟨⟨_, x, sqT_mono g.FH h, e1⟩, fun y H' hy => by
        obtain ⟨rfl, hy⟩ := hy
        have := hy _ (sqT_mono g.FH h)
        rw [e1] at this; cases this
        exact ⟨F, Grow.refl g.FH, r⟩⟩
  | str =>
    cases e
    rename_i y
    refine ⟨Its y, .inr (.inr ⟨y, rfl, rfl⟩), fun F1 i ρ σ τ F H g => ⟨fun d e => ?_, fun hi => show y.cps.size ≤ i by simpa using hi⟩⟩
    rw [List.getElem?_map] at e
    obtain ⟨c, e1, rfl⟩ := Option.map_eq_some_iff.mp e
    have e2 : y.cps[i]? = some c := by rw [← Array.getElem?_toList]; exact e1
    refine ⟨?_, fun x H' hy => ?_⟩
    · have := (Array.getElem?_eq_some_iff.mp e2).1
      exact this
    · obtain ⟨rfl, c', e3, rfl⟩ := hy
      rw [e2] at e3; cases e3
      exact ⟨F, Grow.refl g.FH, .str⟩
  | _ => cases e
theorem si_any {tg l : Expr} {fa : Env → R T} (he : SE X m W l fa) : SI X m W tg l (iSeq m fa) := by
  refine ⟨_, pi_any pe_tE, fun fm hm ρ σ τ F H Q g q => ?_⟩
  refine se_f he fm hm ρ σ τ F H _ g ?_
  unfold iSeq at q
  cases e1 : eF m fa ρ with
  | ex x ρ1 => rw [e1] at q; exact q
  | bad => rw [e1] at q; exact q
  | ok t ρ1 =>
    rw [e1] at q
    intro v F' H' g'
    have hsh : ∃ d, t = .sh d := by
      unfold eF at e1
      obtain ⟨t0, ρ0, _, e2⟩ := bind_ok e1
      split at e2
      · cases e2; exact ⟨_, rfl⟩
      · cases e2
    obtain ⟨d, rfl⟩ := hsh
    have q : PostI X fm W σ τ (opt ((some d).bind itemsD) ρ1) Q := q
    rw [Option.bind_some] at q
    cases e2 : itemsD d with
    | none => rw [e2] at q; exact q.elim
    | some items =>
      rw [e2] at q
      obtain ⟨J, hJ, hF⟩ := feeds_of e2 g'
      have fin := q J [(v, .sh d)] F' H' (fun x hx => by rcases List.mem_cons.mp hx with rfl | hx; rfl; exact nomatch hx) g' hF
      rcases hJ with ⟨a, h1, h2, h3⟩ | ⟨a, h1, h2, h3⟩ | ⟨y, h1, h3⟩
      · exact .inl ⟨a, h1, h2, by rw [← h3]; exact fin⟩
      · exact .inr (.inl ⟨a, h1, h2, by rw [← h3]; exact fin⟩)
      · exact .inr (.inr ⟨y, h1, by rw [← h3]; exact fin⟩)

/-! ### ranges -/
def rngD (lo hi : Int) : List D := (List.range (hi - lo).toNat).map fun i => .int (lo + (i : Nat))
def i62 (i : Int) : Bool := decide (-(2 ^ 62) ≤ i ∧ i < 2 ^ 62)
def rng1 : List D → Option (List D)
  | [.int j] => if i62 j = true then some (rngD 0 j) else none
  | _ => none
def rng2 : List D → Option (List D)
  | [.int i, .int j] => if (i62 i && i62 j) = true then some (rngD i j) else none
  | _ => none
def iR (op : List D → Option (List D)) (fs : Env → R (List T)) : Env → R (List D) := fun ρ => (fs ρ).bind fun ts ρ1 => opt ((views ρ1 ts).bind op) ρ1
theorem feeds_rng {G : Cfg} {lo hi : Int} : Feeds G fm (Itr lo (hi - lo).toNat) [] (rngD lo hi) := fun i ρ σ τ F H g => by
  refine ⟨fun d e => ?_, fun h => show (hi - lo).toNat ≤ i by simpa only [rngD, List.length_map, List.length_range] using h⟩
  unfold rngD at e
  rw [List.getElem?_map] at e
  obtain ⟨c, e1, rfl⟩ := Option.map_eq_some_iff.mp e
  obtain ⟨h1, h2⟩ := List.getElem?_eq_some_iff.mp e1
  rw [List.getElem_range] at h2
  subst h2
  refine ⟨show i < (hi - lo).toNat by simpa only [List.length_range] using h1, fun x H' hy => ?_⟩
  obtain ⟨rfl, rfl⟩ := hy
  exact ⟨F, Grow.refl g.FH, .int⟩
theorem repVs_int {G : Cfg} {F H : Hp} {v : V} {i : Int} (r : RepV G F H v (.int i)) : v = .int i := by
  rcases r with r | ⟨p, vs, ds, _, z, _⟩
  · cases r; rfl
  · cases z
theorem si_range1 {tg a : Expr} {p pos : Pos} {fs : Env → R (List T)} (hmg : X.mg "range" = none) (ha : SA X m W [a] fs) (hg : Gl X "range" := by rfl) (hs : starEach [a] X.env = [(false, eval a X.env)] := by rfl) :
    SI X m W tg (.Call (.Name "range" p) [a] [] pos) (iR rng1 fs) := by
  obtain ⟨t, pa, r⟩ := ha
  refine ⟨_, pi_range1 hg hmg pa hs, fun fm hm ρ σ τ F H Q g q => ?_⟩
  refine r fm hm ρ σ τ F H _ g ?_
  unfold iR at q
  cases e1 : fs ρ with
  | ex x ρ1 => rw [e1] at q; exact q
  | bad => rw [e1] at q; exact q
  | ok ts ρ1 =>
    rw [e1] at q
    intro vs F' H' hl g'
    have q : PostI X fm W σ τ (opt ((views ρ1 ts).bind rng1) ρ1) Q := q
    cases e2 : (views ρ1 ts).bind rng1 with
    | none => rw [e2] at q; exact q.elim
    | some items =>
      rw [e2] at q
      obtain ⟨ds, e3, e4⟩ := Option.bind_eq_some_iff.mp e2
      have rs := pushAll_views hl g' e3
      unfold rng1 at e4
      split at e4
      · rename_i j
        split at e4
        · rename_i hz
          cases e4
          have hz := of_decide_eq_true hz
          cases rs with
          | cons r1 rr =>
            cases rr
            rw [repVs_int r1]
            exact ⟨j, rfl, hz.1, hz.2, by
              have := q (Itr 0 (j - 0).toNat) [] F' H' (fun x hx => nomatch hx) (pushAll_pop _ _ _ g') fun F0 => feeds_rng
              simpa using this⟩
        · cases e4
      · cases e4
theorem si_range2 {tg a b : Expr} {p pos : Pos} {fs : Env → R (List T)} (hmg : X.mg "range" = none) (ha : SA X m W [a, b] fs) (hg : Gl X "range" := by rfl) (hs : starEach [a, b] X.env = [(false, eval a X.env), (false, eval b X.env)] := by rfl)
    (hs2 : starEach [b] X.env = [(false, eval b X.env)] := by rfl) : SI X m W tg (.Call (.Name "range" p) [a, b] [] pos) (iR rng2 fs) := by
  obtain ⟨t, pa, r⟩ := ha
  refine ⟨_, pi_range2 hg hmg pa hs hs2, fun fm hm ρ σ τ F H Q g q => ?_⟩
  refine r fm hm ρ σ τ F H _ g ?_
  unfold iR at q
  cases e1 : fs ρ with
  | ex x ρ1 => rw [e1] at q; exact q
  | bad => rw [e1] at q; exact q
  | ok ts ρ1 =>
    rw [e1] at q
    intro vs F' H' hl g'
    have q : PostI X fm W σ τ (opt ((views ρ1 ts).bind rng2) ρ1) Q := q
    cases e2 : (views ρ1 ts).bind rng2 with
    | none => rw [e2] at q; exact q.elim
    | some items =>
      rw [e2] at q
      obtain ⟨ds, e3, e4⟩ := Option.bind_eq_some_iff.mp e2
      have rs := pushAll_views hl g' e3
      unfold rng2 at e4
      split at e4
      · rename_i i j
        split at e4
        · rename_i hz
          cases e4
          obtain ⟨hz1, hz2⟩ := Bool.and_eq_true_iff.mp hz
          have hz1 := of_decide_eq_true hz1
          have hz2 := of_decide_eq_true hz2
          cases rs with
          | cons r1 rr =>
            cases rr with
            | cons r2 rr =>
              cases rr
              rw [repVs_int r1, repVs_int r2]
              exact ⟨i, j, rfl, ⟨hz1.1, hz1.2, hz2.1, hz2.2⟩, q _ [] F' H' (fun x hx => nomatch hx) (pushAll_pop _ _ _ g') fun F0 => feeds_rng⟩
        · cases e4
      · cases e4

/-! ### targets of several names -/
def gAll : List (D → Env → Option Env) → List D → Env → Option Env
  | [], [], ρ => some ρ
  | g :: gs, d :: ds, ρ => (g d ρ).bind fun ρ1 => gAll gs ds ρ1
  | _, _, _ => none
def gT (gs : List (D → Env → Option Env)) : D → Env → Option Env := fun d ρ => match d with
  | .tup ds => gAll gs ds ρ
  | _ => none
def SGs (G : Cfg) (m : List Nat) (n : Nat) (g : TGs) (gs : List (D → Env → Option Env)) : Prop := gs.length = n ∧ ∀ fm, Pins fm m → ∀ ρ σ τ F H vs ds ρ' (Q : L2.St → Hp → Prop), NoAls τ → Good G fm ρ σ τ F H → Reps G F vs ds → gAll gs ds ρ = some ρ' → (∀ σ' F' H', Good G fm ρ' σ' τ F' H' → Q σ' H') → g vs σ H Q
theorem sgs_nil {G : Cfg} : SGs G m 0 gNil [] := ⟨rfl, fun fm hm ρ σ τ F H vs ds ρ' Q na g r e q => by
  cases ds with
  | nil => cases e; cases r; exact ⟨rfl, q σ F H g⟩
  | cons d ds => cases e⟩
theorem Good.pushAllSh {G : Cfg} {F H : Hp} : ∀ {vs : List V} {ds : List D} {τ : List (V × T)}, Good G fm ρ σ τ F H → Reps G F vs ds → Good G fm ρ σ ((vs.zip (ds.map T.sh)) ++ τ) F H
  | _, _, _, g, .nil => g
  | _, _, _, g, .cons r t => (Good.pushAllSh g t).pushSh r
theorem reps_of_push {G : Cfg} {F H : Hp} : ∀ {vs : List V} {ds : List D} {τ : List (V × T)}, vs.length = ds.length → Good G fm ρ σ ((vs.zip (ds.map T.sh)) ++ τ) F H → Reps G F vs ds ∧ Good G fm ρ σ τ F H
  | [], [], _, _, g => ⟨.nil, g⟩
  | v :: vs, d :: ds, _, h, g => by
    obtain ⟨a, b⟩ := reps_of_push (vs := vs) (ds := ds) (by simpa using h) g.pop
    exact ⟨.cons g.topSh a, b⟩
  | [], _ :: _, _, h, _ => by simp at h
  | _ :: _, [], _, h, _ => by simp at h
theorem noAls_push {vs : List V} {ds : List D} (na : NoAls τ) : NoAls ((vs.zip (ds.map T.sh)) ++ τ) := fun x hx => by
  rcases List.mem_append.mp hx with hx | hx
  · obtain ⟨v, t⟩ := x
    have := (List.of_mem_zip hx).2
    obtain ⟨d, _, rfl⟩ := List.mem_map.mp this
    rfl
  · exact na x hx
theorem sgs_cons {G : Cfg} {n : Nat} {g : TG} {gs' : TGs} {g0 : D → Env → Option Env} {gs : List (D → Env → Option Env)} (h1 : SGd G m g g0) (h2 : SGs G m n gs' gs) : SGs G m (n + 1) (gCons g gs') (g0 :: gs) := ⟨by simp [h2.1], fun fm hm ρ σ τ F H vs ds ρ' Q na gd r e q => by
  cases ds with
  | nil => cases e
  | cons d ds =>
    cases r with
    | cons r rs =>
      rename_i v vs
      have e : (g0 d ρ).bind (fun ρ1 => gAll gs ds ρ1) = some ρ' := e
      obtain ⟨ρ1, e1, e2⟩ := Option.bind_eq_some_iff.mp e
      refine ⟨_, _, rfl, h1 fm hm ρ σ _ F H v d ρ1 _ (noAls_push (vs := vs) (ds := ds) na) (gd.pushAllSh rs) r e1 fun σ1 F1 H1 g1 => ?_⟩
      obtain ⟨rs1, g1'⟩ := reps_of_push rs.length g1
      exact h2.2 fm hm ρ1 σ1 τ F1 H1 vs ds ρ' Q na g1' rs1 e2 q⟩
theorem gAll_len : ∀ {gs : List (D → Env → Option Env)} {ds : List D} {ρ ρ' : Env}, gAll gs ds ρ = some ρ' → ds.length = gs.length
  | [], [], _, _, _ => rfl
  | g :: gs, d :: ds, ρ, ρ', e => by
    have e : (g d ρ).bind (fun ρ1 => gAll gs ds ρ1) = some ρ' := e
    obtain ⟨ρ1, _, e2⟩ := Option.bind_eq_some_iff.mp e
    simp [gAll_len e2]
  | [], _ :: _, _, _, e => nomatch e
  | _ :: _, [], _, _, e => nomatch e
theorem sg_tup {G : Cfg} {n : Nat} {g : TGs} {gs : List (D → Env → Option Env)} (h : SGs G m n g gs) : SGd G m (gTup G.K n g) (gT gs) := fun fm hm ρ σ τ F H v d ρ' Q na gd r e q => by
  cases r with
  | tup ht rs =>
    have e : gAll gs _ ρ = some ρ' := e
    refine ⟨_, _, rfl, sqT_mono gd.FH ht, ?_, h.2 fm hm ρ σ τ F H _ _ ρ' Q na gd rs e q⟩
    rw [rs.length, gAll_len e, h.1]
  | _ => cases e

/-! ### temporaries left out -/
theorem RepL.sub {G : Cfg} {F H : Hp} {τ' : List (V × T)} {A : List Addr} (h : τ'.Sublist τ) : RepL G σ F H τ A → ∃ B, RepL G σ F H τ' B ∧ B.Sublist A := by
  induction h generalizing A with
  | slnil => exact fun r => ⟨A, r, List.Sublist.refl _⟩
  | cons x h ih =>
    intro r
    cases r with
    | cons r l =>
      obtain ⟨B, b1, b2⟩ := ih l
      exact ⟨B, b1, b2.trans (List.sublist_append_right _ _)⟩
  | cons_cons x h ih =>
    intro r
    cases r with
    | cons r l =>
      obtain ⟨B, b1, b2⟩ := ih l
      exact ⟨_, .cons r b1, List.Sublist.append_left b2 _⟩
theorem Good.sub {G : Cfg} {F H : Hp} {τ' : List (V × T)} (g : Good G fm ρ σ τ F H) (h : τ'.Sublist τ) : Good G fm ρ σ τ' F H := by
  obtain ⟨A1, A2, s, l, nd, k⟩ := id g.own
  obtain ⟨B, b1, b2⟩ := l.sub h
  refine ⟨g.FH, g.F0, g.keep, g.hid, g.live, g.pin, g.lent, g.lb, A1, B, s, b1, nd.sublist (List.Sublist.append_left b2 _), fun a ha => k a ?_⟩
  rcases List.mem_append.mp ha with ha | ha
  · exact List.mem_append_left _ ha
  · exact List.mem_append_right _ (b2.subset ha)

/-! ### for -/
def forD (gt : D → Env → Option Env) (gb : Env → RS) : List D → Env → RS
  | [], ρ => .nx ρ
  | d :: ds, ρ => match gt d ρ with
    | none => .bad
    | some ρ1 => match gb ρ1 with
      | .nx ρ2 => forD gt gb ds ρ2
      | .ct ρ2 => forD gt gb ds ρ2
      | .bk ρ2 => .nx ρ2
      | r => r
def sFor (fi : Env → R (List D)) (gt : D → Env → Option Env) (gb : Env → RS) : Env → RS := fun ρ => (fi ρ).s fun items ρ1 => forD gt gb items ρ1
theorem ss_for (cx : Cok X) {tg iter : Expr} {body : List Stmt} {pos : Pos} {fi : Env → R (List D)} {gt : D → Env → Option Env} {gb : Env → RS} {g : TG} (hi : SI X m W tg iter fi) (hg : PG X tg g) (gs : SGd (gX X) m g gt) (hb : SSs X m W body gb)
    (hs : ∀ x, foldedSetIterable iter X.env x = pure x := by intro _; rfl) : SS X m W (.For tg iter body [] pos) (sFor fi gt gb) := fun fm hm ρ σ τ F H D na gd q => by
  obtain ⟨wi, pi, r⟩ := hi
  refine tS_of (ps_for cx.pass cx.calm pi hg pss_tSs hs) ?_
  refine r fm hm ρ σ τ F H _ gd ?_
  unfold sFor at q
  cases e1 : fi ρ with
  | ex x ρ1 => rw [e1] at q; exact q σ
  | bad => rw [e1] at q; exact q
  | ok items ρ1 =>
    rw [e1] at q
    have q : PostS X fm W τ (forD gt gb items ρ1) D := q
    intro J ι F1 H1 nι g1 fd
    have naι : NoAls (ι ++ τ) := fun x hx => (List.mem_append.mp hx).elim (nι x) (na x)
    refine ⟨fun i k σ' H' => k = items.length - i ∧ i ≤ items.length ∧ ∃ ρ' F', Good (gX X) fm ρ' σ' (ι ++ τ) F' H' ∧ PostS X fm W τ (forD gt gb (items.drop i) ρ') D, ⟨items.length, by simp, Nat.zero_le _, ρ1, F1, g1, by simpa using q⟩, ?_⟩
    rintro i k σ' H' ⟨rfl, hi, ρ', F', g', q'⟩
    have fd0 : Feeds (gX X) fm J ι items := fd fm.F0
    by_cases hlt : i < items.length
    · have e2 : items[i]? = some items[i] := List.getElem?_eq_getElem hlt
      have e3 : items.drop i = items[i] :: items.drop (i + 1) := List.drop_eq_getElem_cons hlt
      rw [e3] at q'
      obtain ⟨go, yl⟩ := (fd0 i ρ' σ' τ F' H' g').1 _ e2
      refine .inr ⟨go, fun σ2 H2 => i + 1 ≤ items.length ∧ ∃ ρ2 F2, Good (gX X) fm ρ2 σ2 (ι ++ τ) F2 H2 ∧ PostS X fm W τ (forD gt gb (items.drop (i + 1)) ρ2) D, fun σ2 H2 ⟨h1, h2⟩ => ⟨items.length - (i + 1), by omega, rfl, h1, h2⟩, fun x H2 hy => ?_⟩
      obtain ⟨F2, gr, rx⟩ := yl x H2 hy
      have q' : PostS X fm W τ (match gt items[i] ρ' with
        | none => RS.bad
        | some ρ1 => match gb ρ1 with
          | .nx ρ2 => forD gt gb (items.drop (i + 1)) ρ2
          | .ct ρ2 => forD gt gb (items.drop (i + 1)) ρ2
          | .bk ρ2 => .nx ρ2
          | r => r) D := q'
      cases e4 : gt items[i] ρ' with
      | none => rw [e4] at q'; exact q'.elim
      | some ρ2 =>
        rw [e4] at q'
        refine gs fm hm ρ' σ' (ι ++ τ) F2 H2 x _ ρ2 _ naι (g'.grow gr) rx e4 fun σ3 F3 H3 g3 => ?_
        refine hb fm hm ρ2 σ3 (ι ++ τ) F3 H3 _ naι g3 ?_
        have sb : τ.Sublist (ι ++ τ) := List.sublist_append_right _ _
        dsimp only at q'
        cases e5 : gb ρ2 with
        | nx ρ4 => rw [e5] at q'; exact fun σ4 F4 H4 g4 => ⟨hlt, ρ4, F4, g4, q'⟩
        | ct ρ4 => rw [e5] at q'; exact fun σ4 F4 H4 g4 => ⟨hlt, ρ4, F4, g4, q'⟩
        | bk ρ4 => rw [e5] at q'; exact fun σ4 F4 H4 g4 => q' σ4 F4 H4 (g4.sub sb)
        | rt t ρ4 => rw [e5] at q'; exact fun v σ4 F4 H4 g4 => q' v σ4 F4 H4 (g4.sub (sb.cons_cons _))
        | ex x ρ4 => rw [e5] at q'; exact fun σ4 cls d F4 H4 g4 r4 => q' σ4 cls d F4 H4 (g4.sub sb) r4
        | bad => rw [e5] at q'; exact q'
    · have e : i = items.length := by omega
      subst e
      rw [List.drop_length] at q'
      exact .inl ⟨(fd0 _ ρ' σ' τ F' H' g').2 (Nat.le_refl _), q' σ' F' H' (g'.sub (List.sublist_append_right _ _))⟩

/-! ### while -/
def whileD (c : Env → R Bool) (gb : Env → RS) : Nat → Env → RS
  | 0, _ => .bad
  | n + 1, ρ => (c ρ).s fun b ρ1 => if b = true then match gb ρ1 with
      | .nx ρ2 => whileD c gb n ρ2
      | .ct ρ2 => whileD c gb n ρ2
      | .bk ρ2 => .nx ρ2
      | r => r
    else .nx ρ1
def sWhile (fuel : Env → Nat) (c : Env → R Bool) (gb : Env → RS) : Env → RS := fun ρ => whileD c gb (fuel ρ) ρ
theorem ss_while (cx : Cok X) {c : Expr} {body : List Stmt} {pos : Pos} {fc : Env → R Bool} {gb : Env → RS} (fuel : Env → Nat) (hc : ST X m W c fc) (hb : SSs X m W body gb) : SS X m W (.While c body [] pos) (sWhile fuel fc gb) := fun fm hm ρ σ τ F H D na gd q => by
  refine tS_of (ps_while cx.pass pt_tT pss_tSs) ?_
  refine ⟨fun k σ' H' => ∃ ρ' F', Good (gX X) fm ρ' σ' τ F' H' ∧ PostS X fm W τ (whileD fc gb k ρ') D, ⟨fuel ρ, ρ, F, gd, q⟩, ?_⟩
  rintro k σ' H' ⟨ρ', F', g', q'⟩
  cases k with
  | zero => exact q'.elim
  | succ k =>
    have q' : PostS X fm W τ ((fc ρ').s fun b ρ1 => if b = true then match gb ρ1 with
      | .nx ρ2 => whileD fc gb k ρ2
      | .ct ρ2 => whileD fc gb k ρ2
      | .bk ρ2 => .nx ρ2
      | r => r
    else .nx ρ1) D := q'
    refine hc fm hm ρ' σ' τ F' H' _ g' ?_
    cases e1 : fc ρ' with
    | ex x ρ1 => rw [e1] at q'; exact q' σ'
    | bad => rw [e1] at q'; exact q'
    | ok b ρ1 =>
      rw [e1] at q'
      intro F2 H2 g2
      cases b with
      | false => exact q' σ' F2 H2 g2
      | true =>
        refine ⟨fun σ3 H3 => ∃ ρ3 F3, Good (gX X) fm ρ3 σ3 τ F3 H3 ∧ PostS X fm W τ (whileD fc gb k ρ3) D, fun σ3 H3 h => ⟨k, Nat.lt_succ_self _, h⟩, ?_⟩
        refine hb fm hm ρ1 σ' τ F2 H2 _ na g2 ?_
        have q' : PostS X fm W τ (match gb ρ1 with
          | .nx ρ2 => whileD fc gb k ρ2
          | .ct ρ2 => whileD fc gb k ρ2
          | .bk ρ2 => .nx ρ2
          | r => r) D := q'
        cases e5 : gb ρ1 with
        | nx ρ4 => rw [e5] at q'; exact fun σ4 F4 H4 g4 => ⟨ρ4, F4, g4, q'⟩
        | ct ρ4 => rw [e5] at q'; exact fun σ4 F4 H4 g4 => ⟨ρ4, F4, g4, q'⟩
        | bk ρ4 => rw [e5] at q'; exact q'
        | rt t ρ4 => rw [e5] at q'; exact q'
        | ex x ρ4 => rw [e5] at q'; exact q'
        | bad => rw [e5] at q'; exact q'
end
end Pf

namespace Pf
open PySem PySem.Spec L2

theorem wipe_get (σ : L2.St) (i : Nat) : ∀ vs : List Nat, (wipe σ vs)[i]? = if i ∈ vs then σ[i]?.map (fun _ => none) else σ[i]?
  | [] => by simp [wipe]
  | v :: vs => by
    have ih := wipe_get σ i vs
    unfold wipe
    by_cases h : v = i
    · subst h
      rw [if_pos (List.mem_cons_self ..)]
      by_cases hl : v < (wipe σ vs).length
      · rw [List.getElem?_set_self hl]
        rw [wipe_length] at hl
        rw [List.getElem?_eq_getElem hl]
        rfl
      · rw [List.getElem?_eq_none (by simpa using hl)]
        rw [wipe_length] at hl
        rw [List.getElem?_eq_none (by simpa using hl)]
        rfl
    · rw [List.getElem?_set_ne h, ih]
      by_cases h2 : i ∈ vs
      · rw [if_pos h2, if_pos (List.mem_cons_of_mem _ h2)]
      · rw [if_neg h2, if_neg (by intro z; rcases List.mem_cons.mp z with z | z; exact h z.symm; exact h2 z)]
theorem wipe_set {σ : L2.St} {j : Nat} {x : Option V} {vs : List Nat} (hj : j ∈ vs) : wipe (σ.set j x) vs = wipe σ vs := by
  apply List.ext_getElem?
  intro i
  rw [wipe_get, wipe_get]
  by_cases hi : i ∈ vs
  · rw [if_pos hi, if_pos hi]
    by_cases h : j = i
    · subst h
      by_cases hl : j < σ.length
      · rw [List.getElem?_set_self hl, List.getElem?_eq_getElem hl]; rfl
      · rw [List.getElem?_eq_none (by simpa using hl), List.getElem?_eq_none (by simpa using hl)]
    · rw [List.getElem?_set_ne h]
  · rw [if_neg hi, if_neg hi, List.getElem?_set_ne (by rintro rfl; exact hi hj)]
theorem wipe_wipe (σ : L2.St) (vs : List Nat) : wipe (wipe σ vs) vs = wipe σ vs := by
  apply List.ext_getElem?
  intro i
  rw [wipe_get, wipe_get]
  by_cases hi : i ∈ vs
  · rw [if_pos hi, if_pos hi, Option.map_map]; rfl
  · rw [if_neg hi]
def wipeE (ρ : Env) : List Nat → Env
  | [] => ρ
  | v :: vs => (wipeE ρ vs).set v none
def Gw (vs : List Nat) (g : TG) : Prop := ∀ v σ H Q, g v σ H Q → g v σ H fun σ2 H2 => wipe σ2 vs = wipe σ vs ∧ Q σ2 H2
def Gws (vs : List Nat) (g : TGs) : Prop := ∀ v σ H Q, g v σ H Q → g v σ H fun σ2 H2 => wipe σ2 vs = wipe σ vs ∧ Q σ2 H2
theorem gw_name {vs : List Nat} {i : Nat} (h : i ∈ vs := by decide) : Gw vs (gName i) := fun v σ H Q q => ⟨wipe_set h, q⟩
theorem gws_nil {vs : List Nat} : Gws vs gNil := fun v σ H Q q => ⟨q.1, rfl, q.2⟩
def Mono (g : TG) : Prop := ∀ v σ H Q Q', (∀ σ H, Q σ H → Q' σ H) → g v σ H Q → g v σ H Q'
def Monos (g : TGs) : Prop := ∀ v σ H Q Q', (∀ σ H, Q σ H → Q' σ H) → g v σ H Q → g v σ H Q'
theorem mono_name {i : Nat} : Mono (gName i) := fun _ _ _ _ _ h q => h _ _ q
theorem monos_nil : Monos gNil := fun _ _ _ _ _ h q => ⟨q.1, h _ _ q.2⟩
theorem monos_cons {g : TG} {gs : TGs} (a : Mono g) (b : Monos gs) : Monos (gCons g gs) := fun vs σ H Q Q' h ⟨v, r, e, q⟩ => ⟨v, r, e, a v σ H _ _ (fun σ1 H1 q1 => b r σ1 H1 _ _ h q1) q⟩
theorem mono_tup {K : PySem.W.Frag} {n : Nat} {g : TGs} (a : Monos g) : Mono (gTup K n g) := fun v σ H Q Q' h ⟨p, xs, e1, e2, e3, q⟩ => ⟨p, xs, e1, e2, e3, a xs σ H _ _ h q⟩
theorem gws_cons {vs : List Nat} {g : TG} {gs : TGs} (m1 : Mono g) (a : Gw vs g) (b : Gws vs gs) : Gws vs (gCons g gs) := fun v σ H Q ⟨x, r, e, q⟩ => ⟨x, r, e, m1 x σ H _ _ (fun σ1 H1 ⟨e1, q1⟩ => by
    have := b r σ1 H1 Q q1
    rw [e1] at this
    exact this) (a x σ H _ q)⟩
theorem gw_tup {vs : List Nat} {K : PySem.W.Frag} {n : Nat} {g : TGs} (a : Gws vs g) : Gw vs (gTup K n g) := fun v σ H Q ⟨p, xs, e1, e2, e3, q⟩ => ⟨p, xs, e1, e2, e3, a xs σ H Q q⟩

section
variable {G : Cfg} {fm : Fm} {m : List Nat} {σ : L2.St} {τ : List (V × T)} {ρ : Env} {F H : Hp}
theorem Good.wipe (hm : Pins fm m) (g : Good G fm ρ σ τ F H) (na : NoAls τ) : ∀ vs : List Nat, (∀ i ∈ vs, i ∉ m) → Good G fm (wipeE ρ vs) (L2.wipe σ vs) τ F H
  | [], _ => g
  | v :: vs, h => (Good.wipe hm g na vs fun i hi => h i (List.mem_cons_of_mem _ hi)).drop hm (h v (List.mem_cons_self ..)) none na
def ksh (ρ0 : Env) (v : Nat) : Option T := match ρ0[v]? with
  | some (some (.sh d)) => some (.sh d)
  | _ => none
def unw (ρ0 : Env) : List Nat → Env → Env
  | [], ρ => ρ
  | v :: vs, ρ => unw ρ0 vs (ρ.set v (ksh ρ0 v))
theorem RepS.unwipe {F0 H0 : Hp} {ρ0 : Env} {A0 : List Addr} (s0 : RepS G F0 H0 σ ρ0 A0) (e : Same F0 F) : ∀ (vs : List Nat) (σ1 : L2.St) (ρ : Env) (A : List Addr), σ1.length = σ.length → (∀ j, j ∉ vs → σ1[j]? = σ[j]?) → RepS G F H σ1 ρ A → ∃ B, RepS G F H σ (unw ρ0 vs ρ) B ∧ B.Sublist A
  | [], σ1, ρ, A, hl, h, s => by
    have : σ1 = σ := List.ext_getElem? fun j => h j (fun z => nomatch z)
    subst this
    exact ⟨A, s, List.Sublist.refl _⟩
  | v :: vs, σ1, ρ, A, hl, h, s => by
    have key : ∀ (o : Option V), (∀ j, j ∉ vs → (σ1.set v o)[j]? = σ[j]?) ↔ (∀ j, j ∉ vs → (σ1.set v o)[j]? = σ[j]?) := fun _ => Iff.rfl
    have agree : ∀ o : Option V, (v < σ.length → σ[v]? = some o) → ∀ j, j ∉ vs → (σ1.set v o)[j]? = σ[j]? := fun o ho j hj => by
      by_cases hv : v = j
      · subst hv
        by_cases hlt : v < σ.length
        · rw [List.getElem?_set_self (by omega), ho hlt]
        · rw [List.getElem?_eq_none (by simp; omega), List.getElem?_eq_none (by omega)]
      · rw [List.getElem?_set_ne hv]
        exact h j (by intro z; rcases List.mem_cons.mp z with z | z; exact hv z.symm; exact hj z)
    unfold unw
    have other : ksh ρ0 v = none → ∃ B, RepS G F H σ (unw ρ0 vs (ρ.set v none)) B ∧ B.Sublist A := fun _ => by
      obtain ⟨B, b1, b2⟩ := s.set_none v (σ[v]?.getD none)
      obtain ⟨B', b3, b4⟩ := RepS.unwipe s0 e vs _ _ _ (by simp [hl]) (agree _ fun hlt => by rw [List.getElem?_eq_getElem hlt]; rfl) b1
      exact ⟨B', b3, b4.trans b2⟩
    cases hk : ksh ρ0 v with
    | none => exact other hk
    | some t =>
      unfold ksh at hk
      split at hk
      · rename_i d q
        cases hk
        obtain ⟨x, e1, r⟩ := s0.get q
        rcases r with ⟨d', e2, r⟩ | ⟨p, ws, ds, e2, _⟩
        · cases e2
          obtain ⟨B, b1, b2⟩ := s.put_sh (r.mono e) v
          obtain ⟨B', b3, b4⟩ := RepS.unwipe s0 e vs _ _ _ (by simp [hl]) (agree _ fun _ => e1) b1
          exact ⟨B', b3, b4.trans b2⟩
        · cases e2
      · cases hk
theorem RepL.als {A : List Addr} (h : RepL G σ F H τ A) : ∀ x ∈ τ, ∀ i, x.2 = .al i → σ[i]? = some (some x.1) := by
  induction h with
  | nil => exact fun x hx => nomatch hx
  | cons r _ ih =>
    intro x hx i e
    rcases List.mem_cons.mp hx with rfl | hx
    · cases r with
      | al q => cases e; exact q
      | _ => cases e
    · exact ih x hx i e
theorem RepL.merge {σ' : L2.St} : ∀ {τ : List (V × T)} {A : List Addr}, RepL G σ' F H (τ.filter fun x => noAl x.2) A → (∀ x ∈ τ, ∀ i, x.2 = .al i → σ[i]? = some (some x.1)) → RepL G σ F H τ A
  | [], A, h, _ => by cases h; exact .nil
  | (v, t) :: τ, A, h, k => by
    cases t with
    | al i =>
      have h' : RepL G σ' F H (τ.filter fun x => noAl x.2) A := h
      exact .cons (.al (k _ (List.mem_cons_self ..) i rfl)) (RepL.merge h' fun x hx => k x (List.mem_cons_of_mem _ hx))
    | sh d =>
      have h' : RepL G σ' F H ((v, .sh d) :: τ.filter fun x => noAl x.2) A := h
      cases h' with
      | cons r l =>
        cases r with
        | sh r => exact .cons (.sh r) (RepL.merge l fun x hx => k x (List.mem_cons_of_mem _ hx))
    | own ds =>
      have h' : RepL G σ' F H ((v, .own ds) :: τ.filter fun x => noAl x.2) A := h
      cases h' with
      | cons r l =>
        cases r with
        | own a b c => exact .cons (.own a b c) (RepL.merge l fun x hx => k x (List.mem_cons_of_mem _ hx))
abbrev plain (τ : List (V × T)) : List (V × T) := τ.filter fun x => noAl x.2
theorem plain_noAls : NoAls (plain τ) := fun x hx => (List.mem_filter.mp hx).2
theorem plain_app {ι : List (V × T)} (h : NoAls ι) : plain (ι ++ τ) = ι ++ plain τ := by
  unfold plain
  rw [List.filter_append, List.filter_eq_self.mpr (fun x hx => h x hx)]
/-- behind a comprehension -/
theorem Good.unwipe (hm : Pins fm m) {vs : List Nat} (hv : ∀ i ∈ vs, i ∉ m) {ρ0 : Env} {F0 H0 : Hp} {ι : List (V × T)} (nι : NoAls ι) (g0 : Good G fm ρ0 σ τ F0 H0) (g : Good G { fm with F0 := F0 } ρ (L2.wipe σ vs) (ι ++ plain τ) F H) : Good G fm (unw ρ0 vs ρ) σ (ι ++ τ) F H := by
  obtain ⟨A1, A2, s, l, nd, k⟩ := id g.own
  obtain ⟨A01, A02, s0, l0, _, _⟩ := id g0.own
  have hF : Same F0 F := g.F0
  obtain ⟨B, b1, b2⟩ := s0.unwipe hF vs (L2.wipe σ vs) ρ A1 (wipe_length _ _) (fun j hj => by rw [wipe_get, if_neg hj]) s
  have hl := l0.als
  have l1 : RepL G (L2.wipe σ vs) F H (plain (ι ++ τ)) A2 := by rw [plain_app nι]; exact l
  have l2 : RepL G σ F H (ι ++ τ) A2 := RepL.merge (σ := σ) l1 fun x hx i e => by
    rcases List.mem_append.mp hx with hx | hx
    · have := nι x hx
      rw [e] at this; cases this
    · exact hl x hx i e
  refine ⟨g.FH, g0.F0.trans hF, g.keep, fun a h1 h2 => g.hid a h1 (g0.hid a h1 h2), g.live, g0.pin, fun pr hp => ?_, g0.lb, B, A2, b1, l2, nd.sublist (List.Sublist.append_right b2 _), fun a ha => k a ?_⟩
  · obtain ⟨ds, m2⟩ := g.lent pr hp
    refine ⟨ds, ?_⟩
    have hj : pr.1 ∈ m := hm _ hp
    generalize pr.1 = j at hj m2
    have key : ∀ (ws : List Nat) (ρ : Env), (∀ i ∈ ws, i ∉ m) → (unw ρ0 ws ρ)[j]? = ρ[j]? := fun ws => by
      induction ws with
      | nil => exact fun _ _ => rfl
      | cons w ws ih =>
        intro ρ hw
        unfold unw
        rw [ih _ fun i hi => hw i (List.mem_cons_of_mem _ hi), List.getElem?_set_ne (by rintro rfl; exact hw _ (List.mem_cons_self ..) hj)]
    rw [key vs ρ hv]; exact m2
  · rcases List.mem_append.mp ha with ha | ha
    · exact List.mem_append_left _ (b2.subset ha)
    · exact List.mem_append_right _ ha
/-- an item goes to a list that is being made -/
theorem Good.appTop {y L : V} {d : D} {ds : List D} (g : Good G fm ρ σ ((y, .sh d) :: (L, .own ds) :: τ) F H) : ∃ p vs, L = .ref p ∧ H p = some (.lst vs) ∧ vs.length = ds.length ∧ Good G fm ρ σ ((L, .own (ds ++ [d])) :: τ) F (upd H p (.lst (vs ++ [y]))) := by
  have ry := g.topSh
  have g1 := g.pop
  obtain ⟨A1, A2, s, l, nd, k⟩ := id g1.own
  cases l with
  | cons r l =>
    cases r with
    | own h1 h2 h3 =>
      rename_i B p vs
      have nd' : (p :: (A1 ++ B)).Nodup := (List.Perm.nodup_iff List.perm_middle).mp nd
      have n0 := (List.nodup_cons.mp nd').1
      have n1 : p ∉ A1 := fun z => n0 (List.mem_append_left _ z)
      have n2 : p ∉ B := fun z => n0 (List.mem_append_right _ z)
      have hp : p ∈ A1 ++ ([p] ++ B) := List.mem_append_right _ (List.mem_append_left _ (List.mem_cons_self ..))
      have kp : fm.H0 p = none := by
        rcases k p hp with z | z
        · exact z
        · obtain ⟨j, ds', m1, m2⟩ := g1.lentAt p z
          obtain ⟨v, q1, q2⟩ := s.get m2
          rw [g1.pin _ m1] at q1; cases q1
          rcases q2 with ⟨d, z, _⟩ | ⟨p, vs, ds, _, z, _, _, mm⟩
          · cases z
          · cases z; exact absurd mm n1
      refine ⟨p, vs, rfl, h1, h3.length, fun a o q => ?_, g1.F0, fun a o q n => ?_, g1.hid, fun a h => ?_, g1.pin, g1.lent, g1.lb, A1, [p] ++ B, ?_, .cons (.own upd_same h2 (h3.append (.cons ry .nil))) ?_, nd, k⟩
      · rw [upd_ne (ne_of_none q h2)]; exact g1.FH _ _ q
      · rw [upd_ne (ne_of_none q kp)]; exact g1.keep _ _ q n
      · rw [upd_ne (fun z => h (by rw [z]; exact kp))]; exact g1.live a h
      · refine s.mono (Same.refl _) (fun a ha o q => ?_) fun a ha => (s.mem a ha).1
        rw [upd_ne (show a ≠ p by rintro rfl; exact n1 ha)]; exact q
      · refine l.mono (Same.refl _) (fun a ha o q => ?_) fun a ha => (l.mem a ha).1
        rw [upd_ne (show a ≠ p by rintro rfl; exact n2 ha)]; exact q
theorem Good.ownTop {L : V} {ds : List D} (g : Good G fm ρ σ ((L, .own ds) :: τ) F H) : ∃ p vs, L = .ref p ∧ H p = some (.lst vs) ∧ vs.length = ds.length := by
  obtain ⟨A1, A2, s, l, nd, k⟩ := id g.own
  cases l with
  | cons r l => cases r with | own h1 h2 h3 => exact ⟨_, _, rfl, h1, h3.length⟩
end

/-! ### list comprehensions -/
def lcD (m vs : List Nat) (gt : D → Env → Option Env) (c : Env → R Bool) (fe : Env → R T) : List D → Nat → Env → R (List D)
  | [], _, ρ => .ok [] ρ
  | d :: ds, n, ρ => match gt d ρ with
    | none => .bad
    | some ρ1 => match c ρ1 with
      | .ok true ρ2 => match eF m fe ρ2 with
        | .ok (.sh x) ρ3 => if n < sizeLine then match lcD m vs gt c fe ds (n + 1) (wipeE ρ3 vs) with
            | .ok xs ρ4 => .ok (x :: xs) ρ4
            | _ => .bad
          else .bad
        | _ => .bad
      | .ok false ρ2 => lcD m vs gt c fe ds n (wipeE ρ2 vs)
      | _ => .bad
def eLc (m vs : List Nat) (fi : Env → R (List D)) (gt : D → Env → Option Env) (c : Env → R Bool) (fe : Env → R T) : Env → R T := fun ρ => (fi ρ).bind fun items ρ1 => match lcD m vs gt c fe items 0 (wipeE ρ1 vs) with
  | .ok xs ρ2 => .ok (.own xs) (unw ρ1 vs ρ2)
  | _ => .bad
def cYes : Env → R Bool := fun ρ => .ok true ρ

section
variable {X : Cx} {fm : Fm} {m : List Nat} {W : WX} {σ : L2.St} {τ : List (V × T)} {ρ : Env}
/-- the reading of a comprehension's loop -/
theorem lc_end {items : List D} {fe : Env → R T} {c : Env → R Bool} {gt : D → Env → Option Env} {g : TG} {tt : TT} {te : TE} {vs : List Nat} (hm : Pins fm m) (hv : ∀ i ∈ vs, i ∉ m)
    (gs : SGd (gX X) m g gt) (gm : Mono g) (gw : Gw vs g)
    (hc : ∀ fm, Pins fm m → ∀ ρ σ τ F H Q, Good (gX X) fm ρ σ τ F H → (match c ρ with | .ok b ρ' => ∀ F' H', Good (gX X) fm ρ' σ τ F' H' → Q b H' | _ => False) → tt σ H Q)
    (he : ∀ fm, Pins fm m → ∀ ρ σ τ F H Q, Good (gX X) fm ρ σ τ F H → (match eF m fe ρ with | .ok t ρ' => ∀ v F' H', Good (gX X) fm ρ' σ ((v, t) :: τ) F' H' → Q v H' | _ => False) → te σ H Q)
    {J : It} {ι : List (V × T)} {F1 H1 : Hp} {ρ1 : Env} {Q : VK} (nι : NoAls ι) (g1 : Good (gX X) fm ρ1 σ (ι ++ τ) F1 H1) (fd : ∀ F0, Feeds (gX X) { fm with F0 := F0 } J ι items)
    {xs : List D} {ρ2 : Env} (e : lcD m vs gt c fe items 0 (wipeE ρ1 vs) = .ok xs ρ2) (q : ∀ v F' H', Good (gX X) fm (unw ρ1 vs ρ2) σ ((v, .own xs) :: τ) F' H' → Q v H') :
    ∀ D, H1 D = none → ∃ W : Nat → Nat → Hp → Prop, (∃ k, W 0 k (upd H1 D (.lst []))) ∧ ∀ i k H, W i k H →
      (J.stop i H ∧ Q (.ref D) H) ∨ (J.go i H ∧ ∃ Nx : Hp → Prop, (∀ H', Nx H' → ∃ m', m' < k ∧ W (i + 1) m' H') ∧ ∀ x H', J.yld i H x H' → g x (L2.wipe σ vs) H' fun σ2 H2 => L2.wipe σ2 vs = L2.wipe σ vs ∧ tt σ2 H2 fun b H3 =>
        if b = true then te σ2 H3 fun y H4 => ∃ acc, H4 D = some (.lst acc) ∧ acc.length < sizeLine ∧ Nx (upd H4 D (.lst (acc ++ [y]))) else Nx H3) := by
  intro L hL
  have nall : NoAls (ι ++ plain τ) := fun x hx => (List.mem_append.mp hx).elim (nι x) (plain_noAls x)
  have gp : Good (gX X) { fm with F0 := F1 } ρ1 σ (ι ++ plain τ) F1 H1 := (g1.sub (List.Sublist.append_left List.filter_sublist _)).rebase
  have hm1 : Pins { fm with F0 := F1 } m := hm
  have gp2 := gp.wipe hm1 nall vs hv
  have g0 : Good (gX X) { fm with F0 := F1 } (wipeE ρ1 vs) (L2.wipe σ vs) ((.ref L, .own []) :: (ι ++ plain τ)) F1 (upd H1 L (.lst [])) :=
    gp2.pushOwn (Grow.newOwn g1.FH hL) hL upd_same (none_of_same g1.FH hL) .nil
  have nL : ∀ acc, NoAls ((V.ref L, T.own acc) :: (ι ++ plain τ)) := fun acc x hx => by
    rcases List.mem_cons.mp hx with rfl | hx
    · rfl
    · exact nall x hx
  refine ⟨fun i k H' => k = items.length - i ∧ i ≤ items.length ∧ ∃ acc ys ρ' F', xs = acc ++ ys ∧ Good (gX X) { fm with F0 := F1 } ρ' (L2.wipe σ vs) ((.ref L, .own acc) :: (ι ++ plain τ)) F' H' ∧ lcD m vs gt c fe (items.drop i) acc.length ρ' = .ok ys ρ2,
    ⟨items.length, by simp, Nat.zero_le _, [], xs, _, F1, rfl, g0, by simpa using e⟩, ?_⟩
  rintro i k H' ⟨rfl, hi, acc, ys, ρ', F', ex, g', e'⟩
  -- the iterator's temporaries first
  have swap : ∀ {ρ : Env} {σ : L2.St} {acc : List D} {F H : Hp}, Good (gX X) { fm with F0 := F1 } ρ σ ((.ref L, .own acc) :: (ι ++ plain τ)) F H → Good (gX X) { fm with F0 := F1 } ρ σ (ι ++ plain τ) F H := fun g => g.pop
  have fdi := fd F1
  by_cases hlt : i < items.length
  · have e2 : items[i]? = some items[i] := List.getElem?_eq_getElem hlt
    have e3 : items.drop i = items[i] :: items.drop (i + 1) := List.drop_eq_getElem_cons hlt
    rw [e3] at e'
    obtain ⟨go, yl⟩ := (fdi i ρ' _ _ F' H' (swap g')).1 _ e2
    refine .inr ⟨go, fun H2 => i + 1 ≤ items.length ∧ ∃ acc ys ρ' F', xs = acc ++ ys ∧ Good (gX X) { fm with F0 := F1 } ρ' (L2.wipe σ vs) ((.ref L, .own acc) :: (ι ++ plain τ)) F' H2 ∧ lcD m vs gt c fe (items.drop (i + 1)) acc.length ρ' = .ok ys ρ2,
      fun H2 ⟨h1, h2⟩ => ⟨items.length - (i + 1), by omega, rfl, h1, h2⟩, fun x H2 hy => ?_⟩
    obtain ⟨F2, gr, rx⟩ := yl x H2 hy
    have e' : (match gt items[i] ρ' with
      | none => R.bad
      | some ρ1 => match c ρ1 with
        | .ok true ρ2 => match eF m fe ρ2 with
          | .ok (.sh x) ρ3 => if acc.length < sizeLine then match lcD m vs gt c fe (items.drop (i + 1)) (acc.length + 1) (wipeE ρ3 vs) with
              | .ok xs ρ4 => .ok (x :: xs) ρ4
              | _ => .bad
            else .bad
          | _ => .bad
        | .ok false ρ2 => lcD m vs gt c fe (items.drop (i + 1)) acc.length (wipeE ρ2 vs)
        | _ => .bad) = .ok ys ρ2 := e'
    cases e4 : gt items[i] ρ' with
    | none => rw [e4] at e'; cases e'
    | some ρ3 =>
      rw [e4] at e'
      dsimp only at e'
      have gx := g'.grow gr
      refine gm x _ H2 _ _ (fun σ3 H3 h => ?_) (gw x _ H2 _ (gs { fm with F0 := F1 } hm1 ρ' _ _ F2 H2 x _ ρ3 (fun σ' H' => ∃ F', Good (gX X) { fm with F0 := F1 } ρ3 σ' ((.ref L, .own acc) :: (ι ++ plain τ)) F' H') (nL acc) gx rx e4 fun σ' F' H' g => ⟨F', g⟩))
      obtain ⟨ew, F3, g3⟩ := h
      rw [wipe_wipe] at ew
      refine ⟨ew, ?_⟩
      refine hc { fm with F0 := F1 } hm1 ρ3 σ3 _ F3 H3 _ g3 ?_
      cases e5 : c ρ3 with
      | ex x ρ4 => rw [e5] at e'; cases e'
      | bad => rw [e5] at e'; cases e'
      | ok b ρ4 =>
        rw [e5] at e'
        intro F4 H4 g4
        cases b with
        | false =>
          dsimp only at e'
          rw [if_neg Bool.false_ne_true]
          have g5 := g4.wipe hm1 (nL acc) vs hv
          rw [ew] at g5
          exact ⟨hlt, acc, ys, _, F4, ex, g5, e'⟩
        | true =>
          dsimp only at e'
          rw [if_pos rfl]
          refine he { fm with F0 := F1 } hm1 ρ4 σ3 _ F4 H4 _ g4 ?_
          cases e6 : eF m fe ρ4 with
          | ex x ρ4 => rw [e6] at e'; cases e'
          | bad => rw [e6] at e'; cases e'
          | ok t ρ5 =>
            rw [e6] at e'
            cases t with
            | own ds => cases e'
            | al i => cases e'
            | sh z =>
              dsimp only at e'
              intro y F5 H5 g5
              split at e'
              · rename_i hz
                split at e'
                · rename_i zs ρ6 e7
                  cases e'
                  obtain ⟨p, ws, e8, h1, h2, g6⟩ := g5.appTop
                  cases e8
                  refine ⟨ws, h1, by rw [h2]; exact hz, hlt, acc ++ [z], zs, _, F5, by rw [ex]; simp, ?_, by rw [List.length_append]; exact e7⟩
                  have g7 := g6.wipe hm1 (nL _) vs hv
                  rw [ew] at g7
                  exact g7
                · cases e'
              · cases e'
  · have ei : i = items.length := by omega
    subst ei
    rw [List.drop_length] at e'
    have e' : R.ok [] ρ' = R.ok ys ρ2 := e'
    cases e'
    rw [List.append_nil] at ex
    subst ex
    refine .inl ⟨(fdi _ _ _ _ F' H' (swap g')).2 (Nat.le_refl _), q _ F' H' ?_⟩
    have g2 : Good (gX X) { fm with F0 := F1 } _ (L2.wipe σ vs) ([(.ref L, .own xs)] ++ plain τ) F' H' := g'.sub (List.Sublist.cons_cons _ (List.sublist_append_right _ _))
    have nn : NoAls [(V.ref L, T.own xs)] := fun x hx => by
      rcases List.mem_cons.mp hx with rfl | hx
      · rfl
      · exact nomatch hx
    exact Good.unwipe hm hv nn (g1.sub (List.sublist_append_right _ _)) g2
def WF : WX := fun _ _ _ _ => False
theorem blk_post {P : Prop} {r : R T} {Q : VK} {X' : Cx} (hX : gX X' = gX X) (h : match r with | .ok t ρ' => ∀ v F' H', Good (gX X) fm ρ' σ ((v, t) :: τ) F' H' → Q v H' | _ => False) : PostE X' fm WF σ τ r Q := by
  cases r with
  | ok t ρ => intro v F' H' g; rw [hX] at g; exact h v F' H' g
  | ex x ρ => exact h.elim
  | bad => exact h
/-- a comprehension's parts -/
structure LcOk (X : Cx) (m : List Nat) (W : WX) (tg iter elt : Expr) (ifs : List Expr) (scope : Scope) (vs : List Nat) (f : Env → R T) : Prop where
  ok : ∃ (wi : TI) (g : TG) (tt : TT) (te : TE), PI X tg iter wi ∧ (∀ (s : Shared) (H : Hp) (C : Addr) (cl : List (Str × Addr)) (fp : List Addr), PG (X.blk s H scope (compEnvC scope cl C X.env) fp) tg g) ∧
    (∀ (s : Shared) (H : Hp) (C : Addr) (cl : List (Str × Addr)) (fp : List Addr), PTs (X.blk s H scope (compEnvC scope cl C X.env) fp) ifs tt) ∧
    (∀ (s : Shared) (H : Hp) (C : Addr) (cl : List (Str × Addr)) (fp : List Addr), PE (X.blk s H scope (compEnvC scope cl C X.env) fp) elt te) ∧
    ∀ fm, Pins fm m → ∀ ρ σ τ F H Q, Good (gX X) fm ρ σ τ F H → PostE X fm W σ τ (f ρ) Q → tLc wi g tt te vs σ H Q
theorem lc_all {elt tg iter : Expr} {ifs : List Expr} {scope : Scope} {fi : Env → R (List D)} {fe : Env → R T} {fc : Env → R Bool} {gt : D → Env → Option Env} {g : TG} {tt : TT} {vs : List Nat}
    (hi : SI X m W tg iter fi) (hg : ∀ (s : Shared) (H : Hp) (C : Addr) (cl : List (Str × Addr)) (fp : List Addr), PG (X.blk s H scope (compEnvC scope cl C X.env) fp) tg g)
    (gs : SGd (gX X) m g gt) (gm : Mono g) (gw : Gw vs g)
    (ht : ∀ (s : Shared) (H : Hp) (C : Addr) (cl : List (Str × Addr)) (fp : List Addr), PTs (X.blk s H scope (compEnvC scope cl C X.env) fp) ifs tt)
    (hc : ∀ fm, Pins fm m → ∀ ρ σ τ F H Q, Good (gX X) fm ρ σ τ F H → (match fc ρ with | .ok b ρ' => ∀ F' H', Good (gX X) fm ρ' σ τ F' H' → Q b H' | _ => False) → tt σ H Q)
    (he : ∀ (s : Shared) (H : Hp) (C : Addr) (cl : List (Str × Addr)) (fp : List Addr), SE (X.blk s H scope (compEnvC scope cl C X.env) fp) m WF elt fe) (hv : ∀ i ∈ vs, i ∉ m) :
    LcOk X m W tg iter elt ifs scope vs (eLc m vs fi gt fc fe) := by
  obtain ⟨wi, pi, r⟩ := hi
  refine ⟨wi, g, tt, fun σ H Q => ∀ s H0 C cl fp, tE (X.blk s H0 scope (compEnvC scope cl C X.env) fp) elt σ H Q, pi, hg, ht, fun s H C cl fp => ⟨fun pins s' σ' H' Q' I h => h s H C cl fp pins s' I⟩, fun fm hm ρ σ τ F H Q gd q => ?_⟩
  refine r fm hm ρ σ τ F H _ gd ?_
  unfold eLc at q
  cases e1 : fi ρ with
  | ex x ρ1 => rw [e1] at q; exact q
  | bad => rw [e1] at q; exact q
  | ok items ρ1 =>
    rw [e1] at q
    intro J ι F1 H1 nι g1 fd
    have q : PostE X fm W σ τ (match lcD m vs gt fc fe items 0 (wipeE ρ1 vs) with
      | .ok xs ρ2 => R.ok (.own xs) (unw ρ1 vs ρ2)
      | _ => .bad) Q := q
    split at q
    · rename_i xs ρ2 e2
      exact lc_end hm hv gs gm gw hc (fun fm hm ρ σ τ F H Q g h s H0 C cl fp => by
        refine se_f (he s H0 C cl fp) fm hm ρ σ τ F H Q g ?_
        exact blk_post (P := True) (X := X) rfl h) nι g1 fd e2 q
    · exact q.elim
/-- without a test -/
theorem lc0 {elt tg iter : Expr} {scope : Scope} {fi : Env → R (List D)} {fe : Env → R T} {gt : D → Env → Option Env} {g : TG} (vs : List Nat)
    (hi : SI X m W tg iter fi) (hg : ∀ (s : Shared) (H : Hp) (C : Addr) (cl : List (Str × Addr)) (fp : List Addr), PG (X.blk s H scope (compEnvC scope cl C X.env) fp) tg g)
    (gs : SGd (gX X) m g gt) (gm : Mono g) (gw : Gw vs g)
    (he : ∀ (s : Shared) (H : Hp) (C : Addr) (cl : List (Str × Addr)) (fp : List Addr), SE (X.blk s H scope (compEnvC scope cl C X.env) fp) m WF elt fe) (hv : ∀ i ∈ vs, i ∉ m := by decide) :
    LcOk X m W tg iter elt [] scope vs (eLc m vs fi gt cYes fe) :=
  lc_all (tt := tYes) hi hg gs gm gw (fun _ _ _ _ _ => pts_nil) (fun fm hm ρ σ τ F H Q g h => (show ∀ F' H', Good (gX X) fm ρ σ τ F' H' → Q true H' from h) F H g) he hv
/-- with one test -/
theorem lc1 {elt tg iter c : Expr} {scope : Scope} {fi : Env → R (List D)} {fe : Env → R T} {fc : Env → R Bool} {gt : D → Env → Option Env} {g : TG} (vs : List Nat)
    (hi : SI X m W tg iter fi) (hg : ∀ (s : Shared) (H : Hp) (C : Addr) (cl : List (Str × Addr)) (fp : List Addr), PG (X.blk s H scope (compEnvC scope cl C X.env) fp) tg g)
    (gs : SGd (gX X) m g gt) (gm : Mono g) (gw : Gw vs g)
    (hc : ∀ (s : Shared) (H : Hp) (C : Addr) (cl : List (Str × Addr)) (fp : List Addr), ST (X.blk s H scope (compEnvC scope cl C X.env) fp) m WF c fc)
    (he : ∀ (s : Shared) (H : Hp) (C : Addr) (cl : List (Str × Addr)) (fp : List Addr), SE (X.blk s H scope (compEnvC scope cl C X.env) fp) m WF elt fe) (hv : ∀ i ∈ vs, i ∉ m := by decide) :
    LcOk X m W tg iter elt [c] scope vs (eLc m vs fi gt fc fe) :=
  lc_all (tt := fun σ H Q => ∀ s H0 C cl fp, tT (X.blk s H0 scope (compEnvC scope cl C X.env) fp) c σ H Q) hi hg gs gm gw (fun s H C cl fp => pts_one ⟨fun pins s' σ' H' Q' I h => h s H C cl fp pins s' I⟩)
    (fun fm hm ρ σ τ F H Q g h s H0 C cl fp => by
      refine hc s H0 C cl fp fm hm ρ σ τ F H Q g ?_
      cases e3 : fc ρ with
      | ok b ρ' => rw [e3] at h; exact h
      | ex x ρ' => rw [e3] at h; exact h.elim
      | bad => rw [e3] at h; exact h) he hv
theorem se_lc (cx : Cok X) {elt tg iter : Expr} {ifs : List Expr} {scope : Scope} {own : List (Str × Nat)} {pos : Pos} {f : Env → R T} {vs : List Nat} (L : LcOk X m W tg iter elt ifs scope vs f) (ok : BlkOk X.N X.env.scope scope own) (hov : own.map (·.2) = vs := by rfl)
    (hs : ∀ x, foldedSetIterable iter X.env x = pure x := by intro _; rfl) : SE X m W (.ListComp elt [⟨tg, iter, ifs, 0⟩] scope pos) f := fun fm hm ρ σ τ F H Q gd q => by
  obtain ⟨wi, g, tt, te, h1, h2, h3, h4, h5⟩ := L.ok
  subst hov
  exact tE_of (pe_lc cx.calm cx.nd h1 ok h2 h3 h4 hs) (h5 fm hm ρ σ τ F H Q gd q)
theorem ss_setLc (cx : Cok X) (i : Nat) {y : Str} {py : Pos} {elt tg iter : Expr} {ifs : List Expr} {scope : Scope} {own : List (Str × Nat)} {pos spos : Pos} {f : Env → R T} {vs : List Nat} (L : LcOk X m W tg iter elt ifs scope vs f) (ok : BlkOk X.N X.env.scope scope own)
    (hsw : swapsWith (.ListComp elt [⟨tg, iter, ifs, 0⟩] scope pos) (some (.Name y py)) spos.line X.env = pure true) (hi : i ∉ m := by decide) (hN : X.N[i]? = some y := by rfl) (hy : X.env.scope.names.lookup y = some .local := by rfl) (hov : own.map (·.2) = vs := by rfl)
    (hs : ∀ x, foldedSetIterable iter X.env x = pure x := by intro _; rfl) : SS X m W (.Assign [.Name y py] (.ListComp elt [⟨tg, iter, ifs, 0⟩] scope pos) spos) (sSet m i f) := fun fm hm ρ σ τ F H D na gd q => by
  obtain ⟨wi, g, tt, te, h1, h2, h3, h4, h5⟩ := L.ok
  subst hov
  refine tS_of (ps_setLc cx.calm cx.nd hN hy hsw h1 ok h2 h3 h4 hs) ?_
  refine h5 fm hm ρ σ τ F H (fun x H1 => D.nx (σ.set i (some x)) H1) gd ?_
  unfold sSet at q
  cases e : f ρ with
  | ok t ρ1 =>
    rw [e] at q
    exact fun v F' H' g' => put_end hm hi na g' q
  | ex x ρ1 => rw [e] at q; exact q σ
  | bad => rw [e] at q; exact q
end
end Pf

namespace Pf
open PySem PySem.Spec L2
open PyProof.Rows (envOfC)

/-! ### room, and no guard around -/
structure Rm (k : Nat) (A : Around) : Prop where
  r : Room k A
  g : A.guards = some []
theorem Rm.mono {j k : Nat} {A : Around} (h : Rm k A) (l : j ≤ k) : Rm j A := ⟨h.r.mono l, h.g⟩
theorem Rm.deeper {k : Nat} {A : Around} (h : Rm (k + 1) A) (e : PySem.Env) : Rm k (A.deeper e) := ⟨h.r.deeper e, h.g⟩

/-- a def keeps its promise where no guard is around -/
structure FnG (P : Program) (w : World) (K : PySem.W.Frag) (mg : Str → Option Value) (base : Heap) (k : Nat) (f : Addr) (fd : FuncData) (ps : List Str) (sp : Sp) : Prop where
  len : ∀ vs H Q E, sp vs H Q E → vs.length = ps.length
  run : ∀ (A : Around) (outer : List PySem.Env) (s : Shared) (H : Hp) (args : Args) (us : List Value) (vs : List V) (Q : VK) (E : XK), Rm k A → Env0 P w K mg base A outer s H → BindsTo s fd args (ps.zip us) → Vals vs us → sp vs H Q E →
    codeAny (model P w) A (.call (.ref f) args) (CR (L2.CX P w) outer P w H s Q E) s
/-- a def of the text by its name -/
structure CallD (P : Program) (w : World) (K : PySem.W.Frag) (mg : Str → Option Value) (base : Heap) (x qual : Str) (st : Stmt) (ps : List Str) (k : Nat) (sp : Sp) (f : Addr) (fd : FuncData) : Prop where
  nm : mg x = some (.ref f)
  fn : L2.Fun K x qual st f fd
  bd : Binds K fd ps []
  ok : FnG P w K mg base k f fd ps sp
def Callee (P : Program) (w : World) (K : PySem.W.Frag) (mg : Str → Option Value) (base : Heap) (x qual : Str) (st : Stmt) (ps : List Str) (k : Nat) (sp : Sp) : Prop := ∃ f fd, CallD P w K mg base x qual st ps k sp f fd
abbrev CalleeX (X : Cx) (x qual : Str) (st : Stmt) (ps : List Str) (k : Nat) (sp : Sp) : Prop := Callee X.prog X.w X.K X.mg X.base x qual st ps k sp

section
variable {X : Cx} {pins : List (Addr × Obj)} {σ : L2.St} {H : Hp} {s : Shared} {W : WX}
/-- the def at f called with values and keywords, as they bind -/
theorem run_g {k : Nat} {f : Addr} {fd : FuncData} {ps : List Str} {sp : Sp} {Q : VK} {args : Args} {us : List Value} {vs : List V} (F : FnG X.prog X.w X.K X.mg X.base k f fd ps sp) (hr : Rm k X.A) (tk : Takes X W)
    (I : Inv X pins σ H s) (hb : BindsTo s fd args (ps.zip us)) (r : Vals vs us) (h : sp vs H Q (WE W σ)) : wpAny (model X.prog X.w) X.A (call (.ref f) args.pos args.kw) (EP X pins σ Q) X.xe s := by
  have q := F.run X.A X.stack s H args us vs Q (WE W σ) hr I.env0 hb r h
  refine wpAny_call (codeAny_mono q ?_)
  intro res s' hq
  match res, hq with
  | .error e, hq => exact passAt tk σ pins H s e s' I hq
  | .ok (.ret u), hq => exact I.after hq
  | .ok .next, hq => exact hq.elim
  | .ok .brk, hq => exact hq.elim
  | .ok .cont, hq => exact hq.elim
/-- by place -/
def tG (sp : Sp) (W : WX) (t : TA) : TE := fun σ H Q => t σ H fun vs H1 => sp vs H1 Q (WE W σ)
theorem pe_g {k : Nat} {f : Addr} {fd : FuncData} {ps : List Str} {sp : Sp} {x qual : Str} {st : Stmt} {p pos : Pos} {e : Expr} {es : List Expr} {t : TA} (C : CallD X.prog X.w X.K X.mg X.base x qual st ps k sp f fd) (hr : Rm k X.A) (tk : Takes X W) (hg : Gl X x) (ha : PA X (e :: es) t)
    (hdb : (x == ("__debug__" : Str)) = false) (he : starEach (e :: es) X.env = (false, eval e X.env) :: starEach es X.env) (hpl : (backTo pos (starEach es X.env)).any (·.1) = false) :
    PE X (.Call (.Name x p) (e :: es) [] pos) (tG sp W t) := ⟨fun pins s σ H Q I h => by
  refine wpAny_Call_Name_kw (ld_glob I hg C.nm ?_ hdb)
  refine PySem.W.callWith_K (h₀ := X.base) I.ok.mod.kin C.fn.kp (thn (ha.run pos pins s σ H _ I h) ?_) he hpl
  rintro us s1 ⟨vs, H1, I1, r, q⟩
  refine ⟨I1.kIn, run_g (args := ⟨us, []⟩) C.ok hr tk I1 ?_ r q⟩
  have b := C.bd s1 us I1.kIn (by rw [List.append_nil, ← r.length]; exact C.ok.len _ _ _ _ q)
  rw [List.append_nil] at b
  exact b⟩
theorem pe_g0 {k : Nat} {f : Addr} {fd : FuncData} {ps : List Str} {sp : Sp} {x qual : Str} {st : Stmt} {p pos : Pos} (C : CallD X.prog X.w X.K X.mg X.base x qual st ps k sp f fd) (hr : Rm k X.A) (tk : Takes X W) (hg : Gl X x)
    (hdb : (x == ("__debug__" : Str)) = false) : PE X (.Call (.Name x p) [] [] pos) (tG sp W tNil) := ⟨fun pins s σ H Q I h => by
  refine wpAny_Call_Name_kw (ld_glob I hg C.nm ?_ hdb)
  refine PySem.W.callWith_K0 I.kIn C.fn.kp (run_g (args := ⟨[], []⟩) (us := []) (vs := []) C.ok hr tk I ?_ .nil h)
  have b := C.bd s [] I.kIn (by have := C.ok.len _ _ _ _ h; simpa using this)
  exact b⟩
/-- by place and by name: the positional values, then the keywords' -/
def tGK (sp : Sp) (g : List V → List V → List V) (W : WX) (t tk : TA) : TE := fun σ H Q => t σ H fun vs H1 => tk σ H1 fun zs H2 => sp (g vs zs) H2 Q (WE W σ)
theorem pe_gk {k : Nat} {f : Addr} {fd : FuncData} {ps ks : List Str} {sp : Sp} {x qual : Str} {st : Stmt} {p pos : Pos} {e : Expr} {es : List Expr} {kws : List Keyword} {t t2 : TA} {g : List Value → List Value → List Value} {gV : List V → List V → List V}
    (C : CallD X.prog X.w X.K X.mg X.base x qual st ps k sp f fd) (hr : Rm k X.A) (tk : Takes X W) (hg : Gl X x) (hb : KBinds X.K fd ps ks g gV) (ha : PA X (e :: es) t) (hkw : PK X kws t2)
    (hall : (backToKw pos (keywordEach kws X.env)).all (·.1.isSome) = true) (hks : (backToKw pos (keywordEach kws X.env)).filterMap (·.1) = ks)
    (hdb : (x == ("__debug__" : Str)) = false) (he : starEach (e :: es) X.env = (false, eval e X.env) :: starEach es X.env)
    (hpl : ((backTo pos (starEach (e :: es) X.env)).any (·.1) || (backToKw pos (keywordEach kws X.env)).any (·.1.isNone)) = false) :
    PE X (.Call (.Name x p) (e :: es) kws pos) (tGK sp gV W t t2) := ⟨fun pins s σ H Q I h => by
  refine wpAny_Call_Name_kw (ld_glob I hg C.nm ?_ hdb)
  refine PySem.W.callWith_KW (h₀ := X.base) I.ok.mod.kin C.fn.kp hall (thn (ha.run pos pins s σ H _ I h) ?_) hpl he
  rintro us s1 ⟨vs, H1, I1, r, q⟩
  refine thn (hkw.run pos pins s1 σ H1 _ I1 q) ?_
  rintro ws s2 ⟨zs, H2, I2, rz, q2⟩
  refine ⟨I2.kIn, ?_⟩
  rw [hks]
  have r2 := hb.rel r rz
  exact run_g (args := ⟨us, ks.zip ws⟩) C.ok hr tk I2 (hb.to s2 us ws I2.kIn (by rw [← r2.length]; exact C.ok.len _ _ _ _ q2)) r2 q2⟩
/-- by name alone -/
theorem pe_gk0 {k : Nat} {f : Addr} {fd : FuncData} {ps ks : List Str} {sp : Sp} {x qual : Str} {st : Stmt} {p pos : Pos} {kws : List Keyword} {t2 : TA} {g : List Value → List Value → List Value} {gV : List V → List V → List V}
    (C : CallD X.prog X.w X.K X.mg X.base x qual st ps k sp f fd) (hr : Rm k X.A) (tk : Takes X W) (hg : Gl X x) (hb : KBinds X.K fd ps ks g gV) (hkw : PK X kws t2)
    (hall : (backToKw pos (keywordEach kws X.env)).all (·.1.isSome) = true) (hks : (backToKw pos (keywordEach kws X.env)).filterMap (·.1) = ks)
    (hdb : (x == ("__debug__" : Str)) = false) (hpl : (backToKw pos (keywordEach kws X.env)).any (·.1.isNone) = false) :
    PE X (.Call (.Name x p) [] kws pos) (tGK sp gV W tNil t2) := ⟨fun pins s σ H Q I h => by
  refine wpAny_Call_Name_kw (ld_glob I hg C.nm ?_ hdb)
  refine PySem.W.callWith_KW0 (h₀ := X.base) I.ok.mod.kin C.fn.kp hall (thn (hkw.run pos pins s σ H _ I h) ?_) hpl
  rintro ws s2 ⟨zs, H2, I2, rz, q2⟩
  refine ⟨I2.kIn, ?_⟩
  rw [hks]
  have r2 := hb.rel (vs := []) (us := []) .nil rz
  exact run_g (args := ⟨[], ks.zip ws⟩) C.ok hr tk I2 (hb.to s2 [] ws I2.kIn (by rw [← r2.length]; exact C.ok.len _ _ _ _ q2)) r2 q2⟩
end

/-! ### a def by its body -/
section
variable {P : Program} {w : World} {K : PySem.W.Frag} {mg : Str → Option Value} {base : Heap}
theorem fn_g {x qual : Str} {st : Stmt} {f : Addr} {fd : FuncData} {N ps : List Str} {k : Nat} {sp : Sp} (Fn : L2.Fun K x qual st f fd) (S : FnScope N ps (defScope st)) (len : ∀ vs H Q E, sp vs H Q E → vs.length = ps.length)
    (hbody : ∀ (cdv : Value) (A : Around) (outer : List PySem.Env) (s : Shared) (H : Hp) (vs : List V) (Q : VK) (E : XK), Rm k (A.deeper (envOfC qual (defScope st) s.heap.objs.size f cdv)) → sp vs H Q E →
      ∃ t, PSs (cxOf (L2.CX P w) P w K mg base N qual (defScope st) f cdv A outer s H E) (defBody st) t ∧ t { nx := fun _ H' => Q .non H', rt := Q } (L2.start N vs) H) : FnG P w K mg base (k + 1) f fd ps sp := by
  obtain ⟨oc, od, kV, doc, pm, an, cdv, ct, osl, rfl, lk, hcd⟩ := Fn.ex
  constructor
  · exact len
  intro A outer s H args us vs Q E hr e0 hb r hsp
  have stay : ∀ b o, base.get? b = some o → s.heap.get? b = some o := fun b o e => (e0.bs b o e).1
  have KX : K.In s.heap := e0.mod.kin.keeps stay
  have kinds : ∀ y ∈ ps.zip us, (defScope st).names.lookup y.1 = some .local ∨ ((defScope st).names.lookup y.1 = some .cell ∧ ((cellsFrom (s.heap.objs.size + 1) (defScope st).names []).lookup y.1).isSome = true) := by
    intro y hy
    have hp : y.1 ∈ ps := (List.of_mem_zip (a := y.1) (b := y.2) hy).1
    rcases S.par y.1 hp with q | q
    · exact Or.inl q
    · exact Or.inr ⟨q, PySem.W.cellsFrom_some _ _ _ (Or.inl q)⟩
  refine codeAny_call_function hr.r.depth (KX _ _ lk) rfl S.co S.gen rfl (PySem.W.codeRec_of KX hcd) (hb _ _ _ _ ?_)
  refine wpAny_newFunctionEnv_cells S.kind kinds ?_
  intro env he s1 x
  subst he
  refine ⟨(e0.mod.nolimit.keeps stay).keeps x.toInCall.keep, codeAny_func ?_⟩
  obtain ⟨t, ht, hq⟩ := hbody cdv A outer s H vs Q E (hr.deeper _) hsp
  have I := inv_start (CX := L2.CX P w) (cd := cdv) (qual := qual) (f := f) (A := A) (outer := outer) (E := E) S hr.r.hd e0 (len _ _ _ _ hsp) r x
  have run := ht.run [] s1 (L2.start N vs) H _ I hq
  refine wpAny_mono run ?_ (fun e s' hs => hs)
  intro fl s' hs
  match fl, hs with
  | .ret u, ⟨v, σ', H', J, rv, q⟩ => exact ⟨v, H', J.os, J.bare, J.base, J.hok, rv, q⟩
  | .next, ⟨σ', H', J, q⟩ => exact ⟨V.non, H', J.os, J.bare, J.base, J.hok, rfl, q⟩
  | .brk, ⟨_, _, _, q⟩ => exact q.elim
  | .cont, ⟨_, _, _, q⟩ => exact q.elim
end
end Pf

namespace Pf
open PySem PySem.Spec L2

inductive RP where
  | ok (r : T) | ex (x : Exn) | bad
inductive RM where
  | ok (r : T) (ds : List D) | ex (x : Exn) (ds : List D) | bad
/-- behind a call that was lent the list at p -/
structure GrowM (p : Addr) (F H F' H' : Hp) : Prop where
  FF : Same F F'
  HH : ∀ a o, a ≠ p → H a = some o → H' a = some o
  hid : ∀ a, H a ≠ none → F a = none → F' a = none
  FH : Same F' H'
/-- a def that changes nothing -/
def SpP (G : Cfg) (f : List D → RP) : Sp := fun vs H Q E => ∃ (F : Hp) (ds : List D), Same F H ∧ Reps G F vs ds ∧ match f ds with
  | .ok r => ∀ v F' H', Grow F H F' H' → ResT G H F' H' v r → Q v H'
  | .ex x => ∀ cls d F' H', Grow F H F' H' → RepX G F' x cls d → E cls d H'
  | .bad => False
/-- a def whose first parameter is a list that it may change -/
def SpM (G : Cfg) (f : List D → List D → RM) : Sp := fun vs H Q E => ∃ (F : Hp) (p : Addr) (vs' ws : List V) (ds0 ds : List D), vs = .ref p :: vs' ∧ Same F H ∧ H p = some (.lst ws) ∧ F p = none ∧ Reps G F ws ds0 ∧ Reps G F vs' ds ∧ match f ds0 ds with
  | .ok r ds1 => ∀ v F' H' ws', GrowM p F H F' H' → H' p = some (.lst ws') → Reps G F' ws' ds1 → ResT G H F' H' v r → Q v H'
  | .ex x ds1 => ∀ cls d F' H' ws', GrowM p F H F' H' → H' p = some (.lst ws') → Reps G F' ws' ds1 → RepX G F' x cls d → E cls d H'
  | .bad => False

/-! ### denotations of calls and defs -/
def eCall (f : List D → RP) (fs : Env → R (List T)) : Env → R T := fun ρ => (fs ρ).bind fun ts ρ1 => match shs ts with
  | some ds => match f ds with
    | .ok r => .ok r ρ1
    | .ex x => .ex x ρ1
    | .bad => .bad
  | none => .bad
def eCallM (f : List D → List D → RM) (fs : Env → R (List T)) : Env → R T := fun ρ => (fs ρ).bind fun ts ρ1 => match ts with
  | .al i :: ts' => match ρ1[i]?, shs ts' with
    | some (some (.own ds0)), some ds => match f ds0 ds with
      | .ok r ds1 => .ok r (ρ1.set i (some (.own ds1)))
      | .ex x ds1 => .ex x (ρ1.set i (some (.own ds1)))
      | .bad => .bad
    | _, _ => .bad
  | _ => .bad
def startE (n : Nat) (ts : List T) : Env := ts.map some ++ List.replicate (n - ts.length) none
def resP : RS → RP
  | .rt (T.sh d) _ => .ok (T.sh d)
  | .rt (T.own xs) _ => .ok (T.own xs)
  | .nx _ => .ok (T.sh .non)
  | .ex x _ => .ex x
  | _ => .bad
def lent0 (ρ : Env) (k : List D → RM) : RM := match ρ[0]? with
  | some (some (T.own ds1)) => k ds1
  | _ => .bad
def resM : RS → RM
  | .rt (T.sh d) ρ => lent0 ρ fun ds1 => .ok (T.sh d) ds1
  | .rt (T.own xs) ρ => lent0 ρ fun ds1 => .ok (T.own xs) ds1
  | .nx ρ => lent0 ρ fun ds1 => .ok (T.sh .non) ds1
  | .ex x ρ => lent0 ρ fun ds1 => .ex x ds1
  | _ => .bad
def denP (np n : Nat) (g : Env → RS) : List D → RP := fun ds => if ds.length = np then resP (g (startE n (ds.map T.sh))) else .bad
def denM (np n : Nat) (g : Env → RS) : List D → List D → RM := fun ds0 ds => if ds.length + 1 = np then resM (g (startE n (T.own ds0 :: ds.map T.sh))) else .bad

section
variable {X : Cx} {fm : Fm} {m : List Nat} {W : WX} {σ : L2.St} {τ : List (V × T)} {ρ : Env}
/-- the list of the slot i was lent -/
theorem Good.lend {G : Cfg} {F H : Hp} {i : Nat} {ds : List D} (g : Good G fm ρ σ τ F H) (e : ρ[i]? = some (some (.own ds))) : ∃ p ws, σ[i]? = some (some (.ref p)) ∧ H p = some (.lst ws) ∧ F p = none ∧ Reps G F ws ds ∧
    ∀ F' H' ws' ds', GrowM p F H F' H' → H' p = some (.lst ws') → Reps G F' ws' ds' → Good G fm (ρ.set i (some (.own ds'))) σ τ F' H' := by
  obtain ⟨A1, A2, s, l, nd, k⟩ := id g.own
  obtain ⟨p, vs, B1, B2, e1, e2, e3, e4, e5, k1, k2, k3, k4⟩ := s.at_own e (List.nodup_append.mp nd).1
  refine ⟨p, vs, e2, e3, e4, e5, fun F' H' ws' ds' gm hp r => ?_⟩
  subst e1
  obtain ⟨nd2, n1, n2⟩ := nd_mid nd
  have hs : ∀ a ∈ B1 ++ p :: B2, F' a = none := fun a ha => by
    obtain ⟨h1, ws, h2⟩ := s.mem a ha
    exact gm.hid a (by rw [h2]; exact fun z => nomatch z) h1
  have hmem : ∀ a ∈ B1 ++ B2, a ∈ B1 ++ p :: B2 := fun a ha => by
    rcases List.mem_append.mp ha with h | h
    · exact List.mem_append_left _ h
    · exact List.mem_append_right _ (List.mem_cons_of_mem _ h)
  refine ⟨gm.FH, g.F0.trans gm.FF, fun a o q n => ?_, fun a h1 h2 => gm.hid a (g.live a h1) (g.hid a h1 h2), fun a h => ?_, g.pin, fun pr hp => ?_, g.lb, B1 ++ p :: B2, A2, ?_, ?_, nd, k⟩
  · by_cases ha : a = p
    · subst ha
      rcases k a (List.mem_append_left _ (List.mem_append_right _ (List.mem_cons_self ..))) with z | z
      · rw [z] at q; cases q
      · exact absurd z n
    · exact gm.HH _ _ ha (g.keep _ _ q n)
  · by_cases ha : a = p
    · subst ha; rw [hp]; exact fun z => nomatch z
    · cases q : H a with
      | none => exact absurd q (g.live a h)
      | some o => rw [gm.HH _ _ ha q]; exact fun z => nomatch z
  · obtain ⟨ds2, m2⟩ := g.lent pr hp
    by_cases hj : i = pr.1
    · refine ⟨ds', ?_⟩
      have hlt : i < ρ.length := (List.getElem?_eq_some_iff.mp e).1
      rw [← hj, List.getElem?_set_self hlt]
    · exact ⟨ds2, by rw [List.getElem?_set_ne hj]; exact m2⟩
  · refine k2 F' H' gm.FF (fun a ha => ?_) hs ws' ds' hp r
    obtain ⟨_, ws, h2⟩ := s.mem a (hmem a ha)
    rw [h2]
    exact gm.HH _ _ (by rintro rfl; exact n1 ha) h2
  · refine l.mono gm.FF (fun a ha o q => gm.HH _ _ (by rintro rfl; exact n2 ha) q) fun a ha => ?_
    obtain ⟨h1, ws, h2⟩ := l.mem a ha
    exact gm.hid a (by rw [h2]; exact fun z => nomatch z) h1
theorem Good.resM {G : Cfg} {F H F' H' : Hp} {p : Addr} {v : V} {t : T} (g0 : Good G fm ρ σ τ F' H') (gm : GrowM p F H F' H') (hlive : ∀ a, fm.H0 a ≠ none → H a ≠ none) (hτ : True) (r : ResT G H F' H' v t) (hA : ∀ q, H q = none → ∀ ρ0 τ0, Good G fm ρ0 σ τ0 F H → True)
    (gprev : ∃ ρ0, Good G fm ρ0 σ τ F H ∧ ∀ A1, RepS G F' H' σ ρ A1 → ∀ a ∈ A1, H a ≠ none) : Good G fm ρ σ ((v, t) :: τ) F' H' := by
  cases t with
  | sh d => exact g0.pushSh r
  | own ds =>
    obtain ⟨q, vs, rfl, h1, h2, h3, h4⟩ := r
    obtain ⟨ρ0, gp, hS⟩ := gprev
    obtain ⟨A1, A2, s, l, nd, k⟩ := id g0.own
    obtain ⟨P1, P2, ps, pl, pnd, pk⟩ := id gp.own
    have n1 : q ∉ A1 := fun z => hS A1 s q z h1
    have n2 : q ∉ A2 := by
      have key : ∀ {τ : List (V × T)} {A B : List Addr}, RepL G σ F' H' τ A → RepL G σ F H τ B → A = B := by
        intro τ
        induction τ with
        | nil => intro A B a b; cases a; cases b; rfl
        | cons x τ ih =>
          intro A B a b
          cases a with
          | cons ra la =>
            cases b with
            | cons rb lb =>
              rw [ih la lb]
              congr 1
              cases ra with
              | sh _ => cases rb; rfl
              | own _ _ _ => cases rb; rfl
              | al _ => cases rb; rfl
      rw [key l pl]
      intro z
      obtain ⟨_, ws, h⟩ := pl.mem q z
      rw [h1] at h; cases h
    have n0 : fm.H0 q = none := by
      cases e : fm.H0 q with
      | none => rfl
      | some o => exact absurd h1 (hlive q (by rw [e]; exact fun z => nomatch z))
    refine ⟨g0.FH, g0.F0, g0.keep, g0.hid, g0.live, g0.pin, g0.lent, g0.lb, A1, [q] ++ A2, s, .cons (.own h3 h2 h4) l, ?_, fun a ha => ?_⟩
    · rw [List.nodup_append] at nd ⊢
      refine ⟨nd.1, List.nodup_cons.mpr ⟨n2, nd.2.1⟩, fun a ha b hb => ?_⟩
      rcases List.mem_cons.mp hb with rfl | hb
      · exact fun e => n1 (e ▸ ha)
      · exact nd.2.2 a ha b hb
    · rcases List.mem_append.mp ha with ha | ha
      · exact k a (List.mem_append_left _ ha)
      · rcases List.mem_cons.mp ha with rfl | ha
        · exact .inl n0
        · exact k a (List.mem_append_right _ ha)
  | al i => exact r.elim
theorem se_call {x qual : Str} {st : Stmt} {ps : List Str} {k j : Nat} {f : List D → RP} {e : Expr} {es : List Expr} {fs : Env → R (List T)} {p pos : Pos} (C : CalleeX X x qual st ps k (SpP (gX X) f)) (hr : Rm j X.A) (tk : Takes X W) (ha : SA X m W (e :: es) fs) (hk : k ≤ j := by decide) (hg : Gl X x := by rfl)
    (hdb : (x == ("__debug__" : Str)) = false := by decide) (he : starEach (e :: es) X.env = (false, eval e X.env) :: starEach es X.env := by rfl) (hpl : (backTo pos (starEach es X.env)).any (·.1) = false := by rfl) :
    SE X m W (.Call (.Name x p) (e :: es) [] pos) (eCall f fs) := fun fm hm ρ σ τ F H Q g q => by
  obtain ⟨fa, fd, C⟩ := C
  obtain ⟨t, pa, r⟩ := ha
  refine tE_of (pe_g C (hr.mono hk) tk hg pa hdb he hpl) ?_
  refine sa_bind (es := e :: es) hm r g q fun ts ρ1 vs F' H' hl g' q' => ?_
  split at q'
  · rename_i ds e1
    have rs := pushAll_shs hl g' e1
    have g0 := pushAll_pop _ _ _ g'
    refine ⟨F', ds, g'.FH, rs, ?_⟩
    cases e2 : f ds with
    | ok r =>
      rw [e2] at q'
      exact fun v F2 H2 gr rr => q' v F2 H2 (g0.res gr rr)
    | ex x =>
      rw [e2] at q'
      exact fun cls d F2 H2 gr rx => q' cls d F2 H2 (g0.grow gr) rx
    | bad => rw [e2] at q'; exact q'
  · exact q'.elim
theorem se_callM {x qual : Str} {st : Stmt} {ps : List Str} {k j : Nat} {f : List D → List D → RM} {e : Expr} {es : List Expr} {fs : Env → R (List T)} {p pos : Pos} (C : CalleeX X x qual st ps k (SpM (gX X) f)) (hr : Rm j X.A) (tk : Takes X W) (ha : SA X m W (e :: es) fs) (hk : k ≤ j := by decide) (hg : Gl X x := by rfl)
    (hdb : (x == ("__debug__" : Str)) = false := by decide) (he : starEach (e :: es) X.env = (false, eval e X.env) :: starEach es X.env := by rfl) (hpl : (backTo pos (starEach es X.env)).any (·.1) = false := by rfl) :
    SE X m W (.Call (.Name x p) (e :: es) [] pos) (eCallM f fs) := fun fm hm ρ σ τ F H Q g q => by
  obtain ⟨fa, fd, C⟩ := C
  obtain ⟨t, pa, r⟩ := ha
  refine tE_of (pe_g C (hr.mono hk) tk hg pa hdb he hpl) ?_
  refine sa_bind (es := e :: es) hm r g q fun ts ρ1 vs F' H' hl g' q' => ?_
  split at q'
  · rename_i i ts'
    split at q'
    · rename_i ds0 ds e1 e2
      cases vs with
      | nil => simp at hl
      | cons v vs =>
        rw [pushAll_cons] at g'
        have hl' : vs.length = ts'.length := by simpa using hl
        have rs := pushAll_shs hl' g' e2
        have g1 := pushAll_pop _ _ _ g'
        have g0 := g1.pop
        obtain ⟨pp, ws, q1, q2, q3, q4, lend⟩ := g0.lend e1
        have hv : v = .ref pp := by
          obtain ⟨_, _, _, l, _, _⟩ := g1.own
          cases l with
          | cons r _ => cases r with | al z => rw [q1] at z; cases z; rfl
        subst hv
        refine ⟨F', pp, vs, ws, ds0, ds, rfl, g'.FH, q2, q3, q4, rs, ?_⟩
        cases e3 : f ds0 ds with
        | ok r ds1 =>
          rw [e3] at q'
          intro v F2 H2 ws' gm hp r1 rr
          have g2 := lend F2 H2 ws' ds1 gm hp r1
          refine q' v F2 H2 (Good.resM g2 gm g0.live trivial rr (fun _ _ _ _ _ => trivial) ⟨ρ1, g0, fun A1 s a ha z => ?_⟩)
          -- addresses of slots stood ahead of the call
          obtain ⟨P1, P2, ps, pl, pnd, pk⟩ := id g0.own
          have key : ∀ {σ : L2.St} {ρ : Env} {A : List Addr} {j : Nat} {B : List Addr}, RepS (gX X) F2 H2 σ (ρ.set j (some (.own ds1))) A → RepS (gX X) F' H' σ ρ B → σ[j]? = some (some (.ref pp)) → ∀ a ∈ A, a = pp ∨ a ∈ B := by
            intro σ
            induction σ with
            | nil => intro ρ A j B h1 h2 h3; cases h2; rw [List.set_nil] at h1; cases h1; exact fun a ha => nomatch ha
            | cons o σ ih =>
              intro ρ A j B h1 h2 h3 a ha
              cases ρ with
              | nil => cases h2
              | cons t ρ =>
                cases j with
                | zero =>
                  rw [List.set_cons_zero] at h1
                  simp at h3
                  subst h3
                  cases h1 with
                  | own a1 a2 a3 s1 =>
                    rcases List.mem_cons.mp ha with rfl | ha
                    · exact .inl rfl
                    · have e : ∀ {σ : L2.St} {ρ : Env} {A B : List Addr}, RepS (gX X) F2 H2 σ ρ A → RepS (gX X) F' H' σ ρ B → A = B := by
                        intro σ
                        induction σ with
                        | nil => intro ρ A B h1 h2; cases h1; cases h2; rfl
                        | cons o σ ih =>
                          intro ρ A B h1 h2
                          cases h1 with
                          | skip h1 => cases h2 with | skip h2 => exact ih h1 h2
                          | sh _ h1 => cases h2 with | sh _ h2 => exact ih h1 h2
                          | own _ _ _ h1 => cases h2 with | own _ _ _ h2 => rw [ih h1 h2]
                      cases h2 with
                      | skip h2 => rw [← e s1 h2]; exact .inr ha
                      | sh _ h2 => rw [← e s1 h2]; exact .inr ha
                      | own _ _ _ h2 => rw [← e s1 h2]; exact .inr (List.mem_cons_of_mem _ ha)
                | succ j =>
                  rw [List.set_cons_succ] at h1
                  have h3 : σ[j]? = some (some (.ref pp)) := by simpa using h3
                  cases h1 with
                  | skip h1 => cases h2 with | skip h2 => exact ih h1 h2 h3 a ha
                  | sh _ h1 => cases h2 with | sh _ h2 => exact ih h1 h2 h3 a ha
                  | own _ _ _ h1 =>
                    cases h2 with
                    | own _ _ _ h2 =>
                      rcases List.mem_cons.mp ha with rfl | ha
                      · exact .inr (List.mem_cons_self ..)
                      · rcases ih h1 h2 h3 a ha with z | z
                        · exact .inl z
                        · exact .inr (List.mem_cons_of_mem _ z)
          rcases key s ps q1 a ha with h | h
          · rw [h, q2] at z; cases z
          · obtain ⟨_, ws, h⟩ := ps.mem a h
            rw [h] at z; cases z
        | ex x ds1 =>
          rw [e3] at q'
          exact fun cls d F2 H2 ws' gm hp r1 rx => q' cls d F2 H2 (lend F2 H2 ws' ds1 gm hp r1) rx
        | bad => rw [e3] at q'; exact q'
    · exact q'.elim
  · exact q'.elim
end
end Pf

namespace Pf
open PySem PySem.Spec L2
open PyProof.Rows (envOfC)

section
variable {G : Cfg} {F H F' H' : Hp} {fm : Fm} {ρ : Env} {σ : L2.St} {τ : List (V × T)}
theorem RepS.blank : ∀ (k : Nat), RepS G F H (List.replicate k none) (List.replicate k none) []
  | 0 => .nil
  | k + 1 => .skip (RepS.blank k)
theorem RepS.start : ∀ {vs : List V} {ds : List D} (k : Nat), Reps G F vs ds → RepS G F H (vs.map some ++ List.replicate k none) ((ds.map T.sh).map some ++ List.replicate k none) []
  | _, _, k, .nil => RepS.blank k
  | _, _, k, .cons r t => .sh r (RepS.start k t)
theorem Good.growOf (g : Good G ⟨F, H, [], []⟩ ρ σ τ F' H') : Grow F H F' H' := ⟨g.F0, fun a o e => g.keep a o e (fun z => nomatch z), g.hid, g.FH⟩
theorem Good.growMOf {p : Addr} {m : List (Nat × V)} (g : Good G ⟨F, H, [p], m⟩ ρ σ τ F' H') : GrowM p F H F' H' := ⟨g.F0, fun a o n e => g.keep a o e (fun z => n (List.mem_singleton.mp z)), g.hid, g.FH⟩
/-- the result behind a call -/
theorem Good.resTop {v : V} {t : T} (g : Good G fm ρ σ ((v, t) :: τ) F' H') (ht : noAl t = true) (hF : fm.F0 = F) : ResT G fm.H0 F' H' v t := by
  cases t with
  | sh d => exact g.topSh
  | al i => cases ht
  | own ds =>
    obtain ⟨A1, A2, s, l, nd, k⟩ := id g.own
    cases l with
    | cons r l =>
      cases r with
      | own h1 h2 h3 =>
        rename_i p vs
        refine ⟨p, vs, rfl, ?_, h2, h1, h3⟩
        rcases k p (List.mem_append_right _ (List.mem_append_left _ (List.mem_cons_self ..))) with z | z
        · exact z
        · obtain ⟨j, ds', m1, m2⟩ := g.lentAt p z
          obtain ⟨v, q1, q2⟩ := s.get m2
          rw [g.pin _ m1] at q1; cases q1
          rcases q2 with ⟨d, z, _⟩ | ⟨q, vs, ds, _, z, _, _, mm⟩
          · cases z
          · cases z
            exact absurd rfl ((List.nodup_append.mp nd).2.2 p mm p (List.mem_append_left _ (List.mem_cons_self ..)))
end
section
variable {P : Program} {w : World} {K : PySem.W.Frag} {mg : Str → Option Value} {base : Heap}
theorem denP_len {np n : Nat} {g : Env → RS} {ds : List D} (h : denP np n g ds ≠ .bad) : ds.length = np := by
  unfold denP at h
  split at h
  · assumption
  · exact absurd rfl h
theorem denM_len {np n : Nat} {g : Env → RS} {ds0 ds : List D} (h : denM np n g ds0 ds ≠ .bad) : ds.length + 1 = np := by
  unfold denM at h
  split at h
  · assumption
  · exact absurd rfl h
/-- THE RULE for a def that changes nothing of its arguments -/
theorem okP {x qual : Str} {st : Stmt} {f : Addr} {fd : FuncData} {N ps : List Str} {k : Nat} {g : Env → RS} (Fn : L2.Fun K x qual st f fd) (S : FnScope N ps (defScope st))
    (hb : ∀ (cdv : Value) (A : Around) (outer : List PySem.Env) (s : Shared) (H : Hp) (E : XK), Rm k (A.deeper (envOfC qual (defScope st) s.heap.objs.size f cdv)) →
      SSs (cxOf (L2.CX P w) P w K mg base N qual (defScope st) f cdv A outer s H E) [] (fun cls d _ H' => E cls d H') (defBody st) g) : FnG P w K mg base (k + 1) f fd ps (SpP ⟨K, mg⟩ (denP ps.length N.length g)) := by
  have lens : ∀ {vs : List V} {H : Hp} {Q : VK} {E : XK}, SpP ⟨K, mg⟩ (denP ps.length N.length g) vs H Q E → ∃ F ds, vs.length = ds.length ∧ ds.length = ps.length ∧ Same F H ∧ Reps ⟨K, mg⟩ F vs ds ∧ (match denP ps.length N.length g ds with
      | .ok r => ∀ v F' H', Grow F H F' H' → ResT ⟨K, mg⟩ H F' H' v r → Q v H'
      | .ex x => ∀ cls d F' H', Grow F H F' H' → RepX ⟨K, mg⟩ F' x cls d → E cls d H'
      | .bad => False) := fun {vs H Q E} h => by
    obtain ⟨F, ds, h1, h2, h3⟩ := h
    refine ⟨F, ds, h2.length, denP_len (g := g) (n := N.length) ?_, h1, h2, h3⟩
    intro z
    rw [z] at h3
    exact h3
  refine fn_g Fn S (fun vs H Q E h => ?_) (fun cdv A outer s H vs Q E hr h => ?_)
  · obtain ⟨F, ds, e1, e2, _⟩ := lens h
    omega
  · obtain ⟨F, ds, e1, e2, h1, h2, h3⟩ := lens h
    refine ⟨_, pss_tSs, hb cdv A outer s H E hr ⟨F, H, [], []⟩ (fun p hp => nomatch hp) (startE N.length (ds.map T.sh)) (L2.start N vs) [] F H _ (fun x hx => nomatch hx) ?_ ?_⟩
    · refine ⟨h1, Same.refl _, fun _ _ e _ => e, fun _ _ h => h, fun _ h => h, (fun p hp => nomatch hp), (fun p hp => nomatch hp), (fun p hp => nomatch hp), [], [], ?_, .nil, List.nodup_nil, fun a ha => nomatch ha⟩
      have := RepS.start (G := ⟨K, mg⟩) (H := H) (N.length - vs.length) h2
      unfold startE L2.start
      rw [List.length_map, ← e1]
      exact this
    · unfold denP at h3
      rw [if_pos e2] at h3
      cases e : g (startE N.length (ds.map T.sh)) with
      | nx ρ' =>
        rw [e] at h3
        exact fun σ' F' H' gd => h3 .non F' H' gd.growOf .non
      | rt t ρ' =>
        rw [e] at h3
        intro v σ' F' H' gd
        cases t with
        | sh d => exact h3 v F' H' gd.pop.growOf (gd.resTop rfl rfl)
        | own xs => exact h3 v F' H' gd.pop.growOf (gd.resTop rfl rfl)
        | al i => exact h3.elim
      | bk ρ' => rw [e] at h3; exact h3.elim
      | ct ρ' => rw [e] at h3; exact h3.elim
      | bad => rw [e] at h3; exact h3.elim
      | ex x ρ' =>
        rw [e] at h3
        exact fun σ' cls d F' H' gd r => h3 cls d F' H' gd.growOf r
theorem lent0_ok {ρ' : Env} {k : List D → RM} {Q : RM → Prop} (h : Q (lent0 ρ' k)) (hb : ¬ Q .bad) : ∃ ds1, ρ'[0]? = some (some (.own ds1)) ∧ Q (k ds1) := by
  unfold lent0 at h
  split at h
  · exact ⟨_, by assumption, h⟩
  · exact absurd h hb
theorem Good.lentEnd {G : Cfg} {F H F' H' : Hp} {p : Addr} {ρ' : Env} {σ' : L2.St} {τ : List (V × T)} {ds1 : List D} (g : Good G ⟨F, H, [p], [(0, .ref p)]⟩ ρ' σ' τ F' H') (e : ρ'[0]? = some (some (.own ds1))) : ∃ ws', H' p = some (.lst ws') ∧ Reps G F' ws' ds1 := by
  obtain ⟨A1, A2, s, l, nd, k⟩ := g.own
  obtain ⟨v, q1, q2⟩ := s.get e
  rw [g.pin _ (List.mem_cons_self ..)] at q1; cases q1
  rcases q2 with ⟨d, z, _⟩ | ⟨q, vs, ds, z1, z, h1, h2, mm⟩
  · cases z
  · cases z; cases z1; exact ⟨vs, h1, h2⟩
/-- THE RULE for a def that may change the list that is its first argument -/
theorem okM {x qual : Str} {st : Stmt} {f : Addr} {fd : FuncData} {N ps : List Str} {k : Nat} {g : Env → RS} (Fn : L2.Fun K x qual st f fd) (S : FnScope N ps (defScope st))
    (hb : ∀ (cdv : Value) (A : Around) (outer : List PySem.Env) (s : Shared) (H : Hp) (E : XK), Rm k (A.deeper (envOfC qual (defScope st) s.heap.objs.size f cdv)) →
      SSs (cxOf (L2.CX P w) P w K mg base N qual (defScope st) f cdv A outer s H E) [0] (fun cls d _ H' => E cls d H') (defBody st) g) : FnG P w K mg base (k + 1) f fd ps (SpM ⟨K, mg⟩ (denM ps.length N.length g)) := by
  have lens : ∀ {vs : List V} {H : Hp} {Q : VK} {E : XK}, SpM ⟨K, mg⟩ (denM ps.length N.length g) vs H Q E → ∃ F p vs' ws ds0 ds, vs = .ref p :: vs' ∧ vs'.length = ds.length ∧ ds.length + 1 = ps.length ∧ Same F H ∧ H p = some (.lst ws) ∧ F p = none ∧ Reps ⟨K, mg⟩ F ws ds0 ∧ Reps ⟨K, mg⟩ F vs' ds ∧ (match denM ps.length N.length g ds0 ds with
      | .ok r ds1 => ∀ v F' H' ws', GrowM p F H F' H' → H' p = some (.lst ws') → Reps ⟨K, mg⟩ F' ws' ds1 → ResT ⟨K, mg⟩ H F' H' v r → Q v H'
      | .ex x ds1 => ∀ cls d F' H' ws', GrowM p F H F' H' → H' p = some (.lst ws') → Reps ⟨K, mg⟩ F' ws' ds1 → RepX ⟨K, mg⟩ F' x cls d → E cls d H'
      | .bad => False) := fun {vs H Q E} h => by
    obtain ⟨F, p, vs', ws, ds0, ds, e, h1, h2, h3, h4, h5, h6⟩ := h
    refine ⟨F, p, vs', ws, ds0, ds, e, h5.length, denM_len (g := g) (n := N.length) (ds0 := ds0) ?_, h1, h2, h3, h4, h5, h6⟩
    intro z
    rw [z] at h6
    exact h6
  refine fn_g Fn S (fun vs H Q E h => ?_) (fun cdv A outer s H vs Q E hr h => ?_)
  · obtain ⟨F, p, vs', ws, ds0, ds, rfl, e1, e2, _⟩ := lens h
    simp only [List.length_cons]
    omega
  · obtain ⟨F, p, vs', ws, ds0, ds, rfl, e1, e2, h1, h2, h3, h4, h5, h6⟩ := lens h
    refine ⟨_, pss_tSs, hb cdv A outer s H E hr ⟨F, H, [p], [(0, .ref p)]⟩ (fun q hq => by rw [List.mem_singleton.mp hq]; exact List.mem_cons_self ..) (startE N.length (T.own ds0 :: ds.map T.sh)) (L2.start N (.ref p :: vs')) [] F H _ (fun x hx => nomatch hx) ?_ ?_⟩
    · refine ⟨h1, Same.refl _, fun _ _ e _ => e, fun _ _ h => h, fun _ h => h, fun q hq => ?_, fun q hq => ?_, fun a ha => ?_, [p], [], ?_, .nil, by simp, fun a ha => .inr (by simpa using ha)⟩
      · rw [List.mem_singleton.mp hq]; rfl
      · rw [List.mem_singleton.mp hq]; exact ⟨ds0, rfl⟩
      · rw [List.mem_singleton.mp ha]; exact ⟨0, List.mem_cons_self ..⟩
      · have := RepS.start (G := ⟨K, mg⟩) (H := H) (N.length - (vs'.length + 1)) h5
        unfold startE L2.start
        rw [List.length_cons, List.length_cons, List.length_map, ← e1]
        exact .own h2 h3 h4 this
    · unfold denM at h6
      rw [if_pos e2] at h6
      have hbad : ¬ (match RM.bad with
        | .ok r ds1 => ∀ v F' H' ws', GrowM p F H F' H' → H' p = some (.lst ws') → Reps ⟨K, mg⟩ F' ws' ds1 → ResT ⟨K, mg⟩ H F' H' v r → Q v H'
        | .ex x ds1 => ∀ cls d F' H' ws', GrowM p F H F' H' → H' p = some (.lst ws') → Reps ⟨K, mg⟩ F' ws' ds1 → RepX ⟨K, mg⟩ F' x cls d → E cls d H'
        | .bad => False) := id
      cases e : g (startE N.length (T.own ds0 :: ds.map T.sh)) with
      | nx ρ' =>
        rw [e] at h6
        obtain ⟨ds1, q1, q2⟩ := lent0_ok (Q := fun r => match r with
          | .ok r ds1 => ∀ v F' H' ws', GrowM p F H F' H' → H' p = some (.lst ws') → Reps ⟨K, mg⟩ F' ws' ds1 → ResT ⟨K, mg⟩ H F' H' v r → Q v H'
          | .ex x ds1 => ∀ cls d F' H' ws', GrowM p F H F' H' → H' p = some (.lst ws') → Reps ⟨K, mg⟩ F' ws' ds1 → RepX ⟨K, mg⟩ F' x cls d → E cls d H'
          | .bad => False) h6 hbad
        intro σ' F' H' gd
        obtain ⟨ws', w1, w2⟩ := gd.lentEnd q1
        exact q2 .non F' H' ws' gd.growMOf w1 w2 .non
      | rt t ρ' =>
        rw [e] at h6
        intro v σ' F' H' gd
        cases t with
        | sh d =>
          obtain ⟨ds1, q1, q2⟩ := lent0_ok (Q := fun r => match r with
            | .ok r ds1 => ∀ v F' H' ws', GrowM p F H F' H' → H' p = some (.lst ws') → Reps ⟨K, mg⟩ F' ws' ds1 → ResT ⟨K, mg⟩ H F' H' v r → Q v H'
            | .ex x ds1 => ∀ cls d F' H' ws', GrowM p F H F' H' → H' p = some (.lst ws') → Reps ⟨K, mg⟩ F' ws' ds1 → RepX ⟨K, mg⟩ F' x cls d → E cls d H'
            | .bad => False) h6 hbad
          obtain ⟨ws', w1, w2⟩ := gd.lentEnd q1
          exact q2 v F' H' ws' gd.growMOf w1 w2 (gd.resTop rfl rfl)
        | own xs =>
          obtain ⟨ds1, q1, q2⟩ := lent0_ok (Q := fun r => match r with
            | .ok r ds1 => ∀ v F' H' ws', GrowM p F H F' H' → H' p = some (.lst ws') → Reps ⟨K, mg⟩ F' ws' ds1 → ResT ⟨K, mg⟩ H F' H' v r → Q v H'
            | .ex x ds1 => ∀ cls d F' H' ws', GrowM p F H F' H' → H' p = some (.lst ws') → Reps ⟨K, mg⟩ F' ws' ds1 → RepX ⟨K, mg⟩ F' x cls d → E cls d H'
            | .bad => False) h6 hbad
          obtain ⟨ws', w1, w2⟩ := gd.lentEnd q1
          exact q2 v F' H' ws' gd.growMOf w1 w2 (gd.resTop rfl rfl)
        | al i => exact h6.elim
      | bk ρ' => rw [e] at h6; exact h6.elim
      | ct ρ' => rw [e] at h6; exact h6.elim
      | bad => rw [e] at h6; exact h6.elim
      | ex x ρ' =>
        rw [e] at h6
        obtain ⟨ds1, q1, q2⟩ := lent0_ok (Q := fun r => match r with
          | .ok r ds1 => ∀ v F' H' ws', GrowM p F H F' H' → H' p = some (.lst ws') → Reps ⟨K, mg⟩ F' ws' ds1 → ResT ⟨K, mg⟩ H F' H' v r → Q v H'
          | .ex x ds1 => ∀ cls d F' H' ws', GrowM p F H F' H' → H' p = some (.lst ws') → Reps ⟨K, mg⟩ F' ws' ds1 → RepX ⟨K, mg⟩ F' x cls d → E cls d H'
          | .bad => False) h6 hbad
        intro σ' cls d F' H' gd r
        obtain ⟨ws', w1, w2⟩ := gd.lentEnd q1
        exact q2 cls d F' H' ws' gd.growMOf w1 w2 r
end
end Pf

namespace Pf
open PySem PySem.Spec L2

/-! ### data as the library has it -/
mutual
def toPy : D → Option PyData
  | .non => some .none
  | .bl b => some (.bool b)
  | .int i => some (.int i)
  | .str s => some (.str s)
  | .lst xs => (toPys xs).map .list
  | .rol xs => (toPys xs).map .list
  | .tup xs => (toPys xs).map .tuple
  | _ => none
def toPys : List D → Option (List PyData)
  | [] => some []
  | d :: ds => match toPy d, toPys ds with
    | some p, some ps => some (p :: ps)
    | _, _ => none
end
section
variable {G : Cfg} {F H : Hp}
mutual
theorem Rep.dp (e : Same F H) : ∀ {d : D} {v : V} {p : PyData}, Rep G F v d → toPy d = some p → Dp G.K H v p
  | .non, _, _, r, q => by cases r; cases q; exact .non
  | .bl b, _, _, r, q => by cases r; cases q; exact .bl b
  | .int i, _, _, r, q => by cases r; cases q; exact .int i
  | .str i, _, _, r, q => by cases r; cases q; exact .str i
  | .lst xs, _, _, r, q => by
    cases r with
    | lst h rs =>
      obtain ⟨ps, e1, e2⟩ := Option.map_eq_some_iff.mp (show (toPys xs).map PyData.list = some _ from q)
      subst e2
      exact .lst (SqL.of (e _ _ h)) (Reps.dp e rs e1)
  | .rol xs, _, _, r, q => by
    cases r with
    | rol h rs =>
      obtain ⟨ps, e1, e2⟩ := Option.map_eq_some_iff.mp (show (toPys xs).map PyData.list = some _ from q)
      subst e2
      exact .lst (sqL_mono e h) (Reps.dp e rs e1)
  | .tup xs, _, _, r, q => by
    cases r with
    | tup h rs =>
      obtain ⟨ps, e1, e2⟩ := Option.map_eq_some_iff.mp (show (toPys xs).map PyData.tuple = some _ from q)
      subst e2
      exact .tup (sqT_mono e h) (Reps.dp e rs e1)
  | .ty n, _, _, _, q => by cases q
  | .dk n, _, _, _, q => by cases q
  | .ins _ _, _, _, _, q => by cases q
  | .cls _, _, _, _, q => by cases q
  | .exn _ _, _, _, _, q => by cases q
theorem Reps.dp (e : Same F H) : ∀ {ds : List D} {vs : List V} {ps : List PyData}, Reps G F vs ds → toPys ds = some ps → DpAll G.K H vs ps
  | [], _, _, r, q => by cases r; cases q; exact .nil
  | d :: ds, _, _, r, q => by
    cases r with
    | cons r rs =>
      unfold toPys at q
      split at q
      · rename_i e1 e2
        cases q
        exact .cons (Rep.dp e r e1) (Reps.dp e rs e2)
      · cases q
end
theorem RepV.dp (e : Same F H) {d : D} {v : V} {p : PyData} (r : RepV G F H v d) (q : toPy d = some p) : Dp G.K H v p := by
  rcases r with r | ⟨a, vs, ds, rfl, rfl, h1, h2⟩
  · exact r.dp e q
  · obtain ⟨ps, e1, e2⟩ := Option.map_eq_some_iff.mp (show (toPys ds).map PyData.list = some _ from q)
    subst e2
    exact .lst (SqL.of h1) (Reps.dp e h2 e1)
theorem RepV.int {v : V} {i : Int} (r : RepV G F H v (.int i)) : v = .int i := repVs_int r
theorem RepV.str {v : V} {i : Str} (r : RepV G F H v (.str i)) : v = .str i := by
  rcases r with r | ⟨p, vs, ds, _, z, _⟩
  · cases r; rfl
  · cases z
theorem RepV.bl {v : V} {i : Bool} (r : RepV G F H v (.bl i)) : v = .bl i := by
  rcases r with r | ⟨p, vs, ds, _, z, _⟩
  · cases r; rfl
  · cases z
theorem RepV.non {v : V} (r : RepV G F H v .non) : v = .non := by
  rcases r with r | ⟨p, vs, ds, _, z, _⟩
  · cases r; rfl
  · cases z
theorem RepV.ty {v : V} {n : String} (r : RepV G F H v (.ty n)) : v = .ty n := by
  rcases r with r | ⟨p, vs, ds, _, z, _⟩
  · cases r; rfl
  · cases z
theorem RepV.lst {v : V} {ds : List D} (e : Same F H) (r : RepV G F H v (.lst ds)) : ∃ p vs, v = .ref p ∧ H p = some (.lst vs) ∧ Reps G F vs ds := by
  rcases r with r | ⟨p, vs, ds', h, z, h1, h2⟩
  · cases r with | lst h rs => exact ⟨_, _, rfl, e _ _ h, rs⟩
  · cases z; exact ⟨p, vs, h, h1, h2⟩
theorem RepV.rol {v : V} {ds : List D} (e : Same F H) (r : RepV G F H v (.rol ds)) : ∃ p vs, v = .ref p ∧ SqL G.K H p vs ∧ Reps G F vs ds := by
  rcases r with r | ⟨p, vs, ds', h, z, h1, h2⟩
  · cases r with | rol h rs => exact ⟨_, _, rfl, sqL_mono e h, rs⟩
  · cases z
theorem RepV.tup {v : V} {ds : List D} (e : Same F H) (r : RepV G F H v (.tup ds)) : ∃ p vs, v = .ref p ∧ SqT G.K H p vs ∧ Reps G F vs ds ∧ Rep G F v (.tup ds) := by
  rcases r with r | ⟨p, vs, ds', h, z, h1, h2⟩
  · cases r with | tup h rs => exact ⟨_, _, rfl, sqT_mono e h, rs, .tup h rs⟩
  · cases z
end

/-! ### what may be either -/
theorem opR_or {X : Cx} {f : Value → Value → Sem Value} {r r' : R2} (h : OpR X f r) (h' : OpR X f r') : OpR X f (fun x y H Q => r x y H Q ∨ r' x y H Q) := by
  intro pins s σ H x y v u Q I rx ry q
  rcases q with q | q
  · exact h pins s σ H x y v u Q I rx ry q
  · exact h' pins s σ H x y v u Q I rx ry q
theorem callR_or {X : Cx} {f : Value} {r r' : List V → Hp → VK → Prop} (h : CallR X f r) (h' : CallR X f r') : CallR X f (fun xs H Q => r xs H Q ∨ r' xs H Q) := by
  intro pins s σ H xs us Q I rs q
  rcases q with q | q
  · exact h pins s σ H xs us Q I rs q
  · exact h' pins s σ H xs us Q I rs q

/-! ### the operators on data -/
def sz (n : Nat) : Bool := decide (n ≤ sizeLine)
def addD : D → D → Option T
  | .int a, .int b => some (.sh (.int (a + b)))
  | .str a, .str b => if sz (a.length + b.length) = true then some (.sh (.str (a ++ b))) else none
  | .lst a, .lst b => if sz (a.length + b.length) = true then some (.own (a ++ b)) else none
  | .tup (a :: as), .tup (b :: bs) => if sz ((a :: as).length + (b :: bs).length) = true then some (.sh (.tup ((a :: as) ++ (b :: bs)))) else none
  | _, _ => none
def subD : D → D → Option T
  | .int a, .int b => some (.sh (.int (a - b)))
  | _, _ => none
def mulOk (a b : Int) : Bool := decide ((Builtin.Int.intBits a : Int) + (Builtin.Int.intBits b : Int) ≤ 134217728)
def mulD : D → D → Option T
  | .int a, .int b => if mulOk a b = true then some (.sh (.int (a * b))) else none
  | .lst a, .int k => if decide (-(2 ^ 63) ≤ k ∧ k < 2 ^ 63 ∧ a.length * k.toNat ≤ sizeLine) = true then some (.own (List.replicate k.toNat a).flatten) else none
  | _, _ => none
def divOk (b : Int) : Bool := decide (b ≠ 0 ∧ b.natAbs < 1073741824) || decide (0 < b ∧ b.natAbs.log2 < 9000)
def fdivD : D → D → Option T
  | .int a, .int b => if divOk b = true then some (.sh (.int (a.fdiv b))) else none
  | _, _ => none
def modD : D → D → Option T
  | .int a, .int b => if b = 0 then none else some (.sh (.int (a.fmod b)))
  | _, _ => none
def powD : D → D → Option T
  | .int a, .int b => if decide (0 ≤ b ∧ b ≤ 1000000 ∧ a.natAbs < 2 ^ 64) = true then some (.sh (.int (a ^ b.toNat))) else none
  | _, _ => none
def negD : D → Option T
  | .int a => some (.sh (.int (-a)))
  | _ => none
def eqD : D → D → Option Bool
  | .str a, .str b => some (decide (a = b))
  | a, b => match toPy a, toPy b with
    | some p, some q => if (SeqAt.shaped p && SeqAt.shaped q) = true then some (PyData.eqv p q) else none
    | _, _ => none
def neD (a b : D) : Option Bool := (eqD a b).map (!·)
def ltD : D → D → Option Bool
  | .int a, .int b => some (decide (a < b))
  | _, _ => none
def leD : D → D → Option Bool
  | .int a, .int b => some (decide (a ≤ b))
  | _, _ => none
def gtD (a b : D) : Option Bool := ltD b a
def geD (a b : D) : Option Bool := leD b a
def isNonD : D → Bool
  | .non => true
  | _ => false
def isD : D → D → Option Bool
  | a, .non => some (isNonD a)
  | .bl a, .bl b => some (decide (a = b))
  | _, _ => none
def isNotD (a b : D) : Option Bool := (isD a b).map (!·)

section
variable {G : Cfg}
theorem res_sh {F H : Hp} {v : V} {d : D} {Q : VK} (f : Same F H) (r : Rep G F v d) (k : ∀ v F' H', Grow F H F' H' → ResT G H F' H' v (.sh d) → Q v H') : Q v H := k v F H (Grow.refl f) r
theorem res_own {F H : Hp} {vs : List V} {ds : List D} {Q : VK} (f : Same F H) (r : Reps G F vs ds) (k : ∀ v F' H', Grow F H F' H' → ResT G H F' H' v (.own ds) → Q v H') (p : Addr) (hp : H p = none) : Q (.ref p) (upd H p (.lst vs)) :=
  k _ F _ (Grow.newOwn f hp) ⟨p, vs, rfl, hp, none_of_same f hp, upd_same, r⟩
theorem res_tup {F H : Hp} {vs : List V} {ds : List D} {Q : VK} (f : Same F H) (r : Reps G F vs ds) (k : ∀ v F' H', Grow F H F' H' → ResT G H F' H' v (.sh (.tup ds)) → Q v H') (p : Addr) (hp : H p = none) : Q (.ref p) (upd H p (.tup vs)) :=
  k _ _ _ (Grow.new f hp) (.tup (SqT.of upd_same) (r.mono (Grow.new (o := HO.tup vs) f hp).FF))
end
section
variable {X : Cx} {m : List Nat} {W : WX} {a b : Expr} {fa fb : Env → R T} {pos : Pos}
theorem Reps.ne {G : Cfg} {F : Hp} {vs : List V} {d : D} {ds : List D} (r : Reps G F vs (d :: ds)) : vs ≠ [] := by cases r; simp
theorem se_add (ha : SE X m W a fa) (hb : SE X m W b fb) : SE X m W (.BinOp a .Add b pos) (e2 addD fa fb) := by
  refine se_op2 (opR_or op_add (opR_or op_add_str (opR_or op_cat op_catT))) (fun F H x y dx dy t Q f rx ry e k => ?_) ha hb
  unfold addD at e
  split at e
  · cases e
    exact .inl ⟨_, _, rx.int, ry.int, res_sh f .int k⟩
  · split at e
    · rename_i hz
      cases e
      exact .inr (.inl ⟨_, _, rx.str, ry.str, of_decide_eq_true hz, res_sh f .str k⟩)
    · cases e
  · split at e
    · rename_i hz
      cases e
      obtain ⟨p, vs, h1, h2, h3⟩ := rx.lst f
      obtain ⟨q, ws, g1, g2, g3⟩ := ry.lst f
      exact .inr (.inr (.inl ⟨p, q, vs, ws, h1, g1, h2, g2, by rw [h3.length, g3.length]; exact of_decide_eq_true hz, res_own f (h3.append g3) k⟩))
    · cases e
  · split at e
    · rename_i hz
      cases e
      obtain ⟨p, vs, h1, h2, h3, _⟩ := rx.tup f
      obtain ⟨q, ws, g1, g2, g3, _⟩ := ry.tup f
      exact .inr (.inr (.inr ⟨p, q, vs, ws, h1, g1, h2, g2, h3.ne, by rw [h3.length, g3.length]; exact of_decide_eq_true hz, fun z => absurd z g3.ne, fun _ => res_tup f (h3.append g3) k⟩))
    · cases e
  · cases e
theorem se_sub (ha : SE X m W a fa) (hb : SE X m W b fb) : SE X m W (.BinOp a .Sub b pos) (e2 subD fa fb) := by
  refine se_op2 op_sub (fun F H x y dx dy t Q f rx ry e k => ?_) ha hb
  unfold subD at e
  split at e
  · cases e
    exact ⟨_, _, rx.int, ry.int, res_sh f .int k⟩
  · cases e
theorem flatten_reps {G : Cfg} {F : Hp} {vs : List V} {ds : List D} (r : Reps G F vs ds) : ∀ n, Reps G F (List.replicate n vs).flatten (List.replicate n ds).flatten
  | 0 => .nil
  | n + 1 => by
    rw [List.replicate_succ, List.replicate_succ, List.flatten_cons, List.flatten_cons]
    exact r.append (flatten_reps r n)
theorem se_mul (ha : SE X m W a fa) (hb : SE X m W b fb) : SE X m W (.BinOp a .Mult b pos) (e2 mulD fa fb) := by
  refine se_op2 (opR_or op_mulX op_rep) (fun F H x y dx dy t Q f rx ry e k => ?_) ha hb
  unfold mulD at e
  split at e
  · split at e
    · rename_i hz
      cases e
      have hz := of_decide_eq_true hz
      exact .inl ⟨_, _, rx.int, ry.int, hz, res_sh f .int k⟩
    · cases e
  · split at e
    · rename_i hz
      cases e
      obtain ⟨h1, h2, h3⟩ := of_decide_eq_true hz
      obtain ⟨p, vs, q1, q2, q3⟩ := rx.lst f
      exact .inr ⟨p, _, vs, q1, ry.int, q2, h1, h2, by rw [q3.length]; exact h3, fun p hp => res_own f (flatten_reps q3 _) k p hp⟩
    · cases e
  · cases e
theorem se_fdiv (ha : SE X m W a fa) (hb : SE X m W b fb) : SE X m W (.BinOp a .FloorDiv b pos) (e2 fdivD fa fb) := by
  refine se_op2 (opR_or op_fdivN op_fdivW) (fun F H x y dx dy t Q f rx ry e k => ?_) ha hb
  unfold fdivD at e
  split at e
  · rename_i i j
    split at e
    · rename_i hz
      cases e
      rcases Bool.or_eq_true_iff.mp hz with hz | hz
      · have hz := of_decide_eq_true hz
        exact .inl ⟨_, _, rx.int, ry.int, hz, res_sh f .int k⟩
      · have hz := of_decide_eq_true hz
        refine .inr ⟨_, _, rx.int, ry.int, hz, ?_⟩
        show Q (V.int (i / j)) H
        rw [← Int.fdiv_eq_ediv_of_nonneg i (Int.le_of_lt hz.1)]
        exact res_sh f .int k
    · cases e
  · cases e
theorem se_mod (ha : SE X m W a fa) (hb : SE X m W b fb) : SE X m W (.BinOp a .Mod b pos) (e2 modD fa fb) := by
  refine se_op2 op_modN (fun F H x y dx dy t Q f rx ry e k => ?_) ha hb
  unfold modD at e
  split at e
  · split at e
    · cases e
    · rename_i hz
      cases e
      exact ⟨_, _, rx.int, ry.int, hz, res_sh f .int k⟩
  · cases e
theorem se_pow (ha : SE X m W a fa) (hb : SE X m W b fb) : SE X m W (.BinOp a .Pow b pos) (e2 powD fa fb) := by
  refine se_op2 op_pow (fun F H x y dx dy t Q f rx ry e k => ?_) ha hb
  unfold powD at e
  split at e
  · split at e
    · rename_i hz
      cases e
      have hz := of_decide_eq_true hz
      exact ⟨_, _, rx.int, ry.int, hz, res_sh f .int k⟩
    · cases e
  · cases e
theorem se_neg (ha : SE X m W a fa) : SE X m W (.UnaryOp .USub a pos) (e1 negD fa) := by
  refine se_op1 un_neg (fun F H x dx t Q f rx e k => ?_) ha
  unfold negD at e
  split at e
  · cases e
    exact ⟨_, rx.int, res_sh f .int k⟩
  · cases e

/-! ### comparisons -/
theorem asBl_some {g : D → D → Option Bool} {x y : D} {t : T} (e : asBl g x y = some t) : ∃ k, g x y = some k ∧ t = .sh (.bl k) := by
  unfold asBl at e
  obtain ⟨k, e1, e2⟩ := Option.map_eq_some_iff.mp e
  exact ⟨k, e1, e2.symm⟩
theorem eqD_some {G : Cfg} {F H : Hp} {x y : V} {a b : D} {k : Bool} (f : Same F H) (rx : RepV G F H x a) (ry : RepV G F H y b) (e : eqD a b = some k) : (scal x y = true ∧ k = decide (x = y)) ∨ ∃ p q, Dp G.K H x p ∧ Dp G.K H y q ∧ SeqAt.shaped p = true ∧ SeqAt.shaped q = true ∧ k = PyData.eqv p q := by
  unfold eqD at e
  split at e
  · cases e
    rw [rx.str, ry.str]
    refine .inl ⟨rfl, ?_⟩
    rename_i a b
    by_cases h : a = b
    · subst h; simp
    · rw [decide_eq_false h, decide_eq_false (fun z => h (V.str.inj z))]
  · split at e
    · rename_i p q e1 e2
      split at e
      · rename_i hz
        cases e
        obtain ⟨z1, z2⟩ := Bool.and_eq_true_iff.mp hz
        exact .inr ⟨p, q, rx.dp f e1, ry.dp f e2, z1, z2, rfl⟩
      · cases e
    · cases e
theorem o2_eq : Op2 (gX X) (fun x y H Q => rEq x y H Q ∨ rEqD X.K x y H Q) (asBl eqD) := fun F H x y dx dy t Q f rx ry e k => by
  obtain ⟨b, e1, rfl⟩ := asBl_some e
  rcases eqD_some f rx ry e1 with ⟨h, rfl⟩ | ⟨p, q, h1, h2, h3, h4, rfl⟩
  · exact .inl ⟨h, res_sh f .bl k⟩
  · exact .inr ⟨p, q, h1, h2, h3, h4, res_sh f .bl k⟩
theorem o2_ne : Op2 (gX X) (fun x y H Q => rNe x y H Q ∨ rNeD X.K x y H Q) (asBl neD) := fun F H x y dx dy t Q f rx ry e k => by
  obtain ⟨b, e1, rfl⟩ := asBl_some e
  obtain ⟨b', e2, rfl⟩ := Option.map_eq_some_iff.mp e1
  rcases eqD_some f rx ry e2 with ⟨h, rfl⟩ | ⟨p, q, h1, h2, h3, h4, rfl⟩
  · exact .inl ⟨h, res_sh f .bl k⟩
  · exact .inr ⟨p, q, h1, h2, h3, h4, res_sh f .bl k⟩
theorem or_eq {j : Nat} (hr : Room j X.A) : OpR X (compareOp .Eq) (fun x y H Q => rEq x y H Q ∨ rEqD X.K x y H Q) := opR_or op_eq (op_eqD hr.units)
theorem or_ne {j : Nat} (hr : Room j X.A) : OpR X (compareOp .NotEq) (fun x y H Q => rNe x y H Q ∨ rNeD X.K x y H Q) := opR_or op_ne (op_neD hr.units)
theorem o2_lt : Op2 (gX X) (rI0 fun i j => .bl (decide (i < j))) (asBl ltD) := fun F H x y dx dy t Q f rx ry e k => by
  obtain ⟨b, e1, rfl⟩ := asBl_some e
  unfold ltD at e1
  split at e1
  · cases e1; exact ⟨_, _, rx.int, ry.int, res_sh f .bl k⟩
  · cases e1
theorem o2_le : Op2 (gX X) (rI0 fun i j => .bl (decide (i ≤ j))) (asBl leD) := fun F H x y dx dy t Q f rx ry e k => by
  obtain ⟨b, e1, rfl⟩ := asBl_some e
  unfold leD at e1
  split at e1
  · cases e1; exact ⟨_, _, rx.int, ry.int, res_sh f .bl k⟩
  · cases e1
theorem o2_gt : Op2 (gX X) (rI0 fun i j => .bl (decide (j < i))) (asBl gtD) := fun F H x y dx dy t Q f rx ry e k => by
  obtain ⟨b, e1, rfl⟩ := asBl_some e
  unfold gtD ltD at e1
  split at e1
  · cases e1; exact ⟨_, _, rx.int, ry.int, res_sh f .bl k⟩
  · cases e1
theorem o2_ge : Op2 (gX X) (rI0 fun i j => .bl (decide (j ≤ i))) (asBl geD) := fun F H x y dx dy t Q f rx ry e k => by
  obtain ⟨b, e1, rfl⟩ := asBl_some e
  unfold geD leD at e1
  split at e1
  · cases e1; exact ⟨_, _, rx.int, ry.int, res_sh f .bl k⟩
  · cases e1
theorem isNon_of {G : Cfg} {F H : Hp} {x : V} {d : D} (r : RepV G F H x d) : decide (x = .non) = isNonD d := by
  rcases r with r | ⟨p, vs, ds, rfl, rfl, _⟩
  · cases r <;> simp [isNonD]
  · simp [isNonD]
theorem o2_is : Op2 (gX X) (fun x y H Q => (y = .non ∧ Q (.bl (decide (x = .non))) H) ∨ rIsB x y H Q) (asBl isD) := fun F H x y dx dy t Q f rx ry e k => by
  obtain ⟨b, e1, rfl⟩ := asBl_some e
  unfold isD at e1
  split at e1
  · cases e1
    rw [isNon_of rx]
    exact .inl ⟨ry.non, res_sh f .bl k⟩
  · cases e1
    exact .inr ⟨_, _, rx.bl, ry.bl, res_sh f .bl k⟩
  · cases e1
theorem or_is : OpR X (compareOp .Is) (fun x y H Q => (y = .non ∧ Q (.bl (decide (x = .non))) H) ∨ rIsB x y H Q) := opR_or op_isN op_isBl
theorem o2_isNot : Op2 (gX X) (fun x y H Q => (y = .non ∧ Q (.bl (!decide (x = .non))) H) ∨ rNotB x y H Q) (asBl isNotD) := fun F H x y dx dy t Q f rx ry e k => by
  obtain ⟨b, e1, rfl⟩ := asBl_some e
  obtain ⟨b', e2, rfl⟩ := Option.map_eq_some_iff.mp e1
  unfold isD at e2
  split at e2
  · cases e2
    rw [isNon_of rx]
    exact .inl ⟨ry.non, res_sh f .bl k⟩
  · cases e2
    exact .inr ⟨_, _, rx.bl, ry.bl, res_sh f .bl k⟩
  · cases e2
theorem or_isNot : OpR X (compareOp .IsNot) (fun x y H Q => (y = .non ∧ Q (.bl (!decide (x = .non))) H) ∨ rNotB x y H Q) := opR_or op_notN op_notBl
end
end Pf

namespace Pf
open PySem PySem.Spec L2

/-! ### built-in calls on data -/
def intsD : List D → Option (List Int)
  | [] => some []
  | .int i :: ds => (intsD ds).map (i :: ·)
  | _ => none
def blsD : List D → Option (List Bool)
  | [] => some []
  | .bl i :: ds => (blsD ds).map (i :: ·)
  | _ => none
section
variable {G : Cfg} {F H : Hp}
theorem Reps.intsD : ∀ {vs : List V} {ds : List D} {ns : List Int}, Reps G F vs ds → Pf.intsD ds = some ns → vs = ns.map V.int
  | _, _, _, .nil, e => by cases e; rfl
  | _, _, _, .cons r t, e => by
    cases r with
    | int =>
      obtain ⟨ns, e1, e2⟩ := Option.map_eq_some_iff.mp e
      subst e2
      rw [Reps.intsD t e1]; rfl
    | _ => cases e
theorem Reps.blsD : ∀ {vs : List V} {ds : List D} {ns : List Bool}, Reps G F vs ds → Pf.blsD ds = some ns → vs = ns.map V.bl
  | _, _, _, .nil, e => by cases e; rfl
  | _, _, _, .cons r t, e => by
    cases r with
    | bl =>
      obtain ⟨ns, e1, e2⟩ := Option.map_eq_some_iff.mp e
      subst e2
      rw [Reps.blsD t e1]; rfl
    | _ => cases e
theorem repVs1 {vs : List V} {d : D} (r : RepVs G F H vs [d]) : ∃ v, vs = [v] ∧ RepV G F H v d := by
  cases r with
  | cons r t => cases t; exact ⟨_, rfl, r⟩
theorem repVs2 {vs : List V} {d e : D} (r : RepVs G F H vs [d, e]) : ∃ v w, vs = [v, w] ∧ RepV G F H v d ∧ RepV G F H w e := by
  cases r with
  | cons r t =>
    cases t with
    | cons r' t => cases t; exact ⟨_, _, rfl, r, r'⟩
end
def lenD : List D → Option T
  | [.lst xs] => some (.sh (.int xs.length))
  | [.rol xs] => some (.sh (.int xs.length))
  | [.tup xs] => some (.sh (.int xs.length))
  | [.str y] => if sz y.length = true then some (.sh (.int y.length)) else none
  | _ => none
def intD : List D → Option T
  | [.int i] => some (.sh (.int i))
  | [.bl b] => some (.sh (.int (if b then 1 else 0)))
  | _ => none
def absD : List D → Option T
  | [.int i] => some (.sh (.int (if i < 0 then -i else i)))
  | _ => none
def boolD : List D → Option T
  | [.int i] => some (.sh (.bl (i != 0)))
  | [.bl b] => some (.sh (.bl b))
  | _ => none
def listOf : D → Option (List D)
  | .lst xs => some xs
  | _ => none
def allD : List D → Option T
  | [.lst xs] => (blsD xs).map fun bs => .sh (.bl (bs.all id))
  | _ => none
def anyD : List D → Option T
  | [.lst xs] => (blsD xs).map fun bs => .sh (.bl (bs.any id))
  | _ => none
def sumD : List D → Option T
  | [.lst xs] => (intsD xs).map fun ns => .sh (.int ns.sum)
  | _ => none
def tupleD : List D → Option T
  | [.lst xs] => some (.sh (.tup xs))
  | [.tup xs] => some (.sh (.tup xs))
  | _ => none
def listD : List D → Option T
  | [.lst xs] => some (.own xs)
  | [.tup xs] => some (.own xs)
  | _ => none
def strD : List D → Option T
  | [.int i] => if decide (i.natAbs.log2 < 1920) = true then some (.sh (.str (toString i))) else none
  | _ => none
def max2D : List D → Option T
  | [.int i, .int j] => some (.sh (.int (if j > i then j else i)))
  | _ => none
def min2D : List D → Option T
  | [.int i, .int j] => some (.sh (.int (if j < i then j else i)))
  | _ => none
section
variable {X : Cx}
abbrev rLenX (X : Cx) : List V → Hp → VK → Prop := fun xs H Q => ∃ x n, xs = [x] ∧ LenV X.K x H n ∧ Q (.int n) H
theorem on_len : OpN (gX X) (rLenX X) lenD := fun F H vs ds t Q f r e k => by
  unfold lenD at e
  split at e
  · cases e
    obtain ⟨v, rfl, rv⟩ := repVs1 r
    obtain ⟨p, ws, rfl, h1, h2⟩ := rv.lst f
    refine ⟨_, _, rfl, .inl ⟨ws, SqL.of h1, rfl⟩, ?_⟩
    rw [h2.length]
    exact res_sh f .int k
  · cases e
    obtain ⟨v, rfl, rv⟩ := repVs1 r
    obtain ⟨p, ws, rfl, h1, h2⟩ := rv.rol f
    refine ⟨_, _, rfl, .inl ⟨ws, h1, rfl⟩, ?_⟩
    rw [h2.length]
    exact res_sh f .int k
  · cases e
    obtain ⟨v, rfl, rv⟩ := repVs1 r
    obtain ⟨p, ws, rfl, h1, h2, _⟩ := rv.tup f
    refine ⟨_, _, rfl, .inr ⟨ws, h1, rfl⟩, ?_⟩
    rw [h2.length]
    exact res_sh f .int k
  · split at e
    · rename_i hz
      cases e
      obtain ⟨v, rfl, rv⟩ := repVs1 r
      rw [rv.str]
      exact ⟨_, _, rfl, ⟨of_decide_eq_true hz, rfl⟩, res_sh f .int k⟩
    · cases e
  · cases e
theorem on_int : OpN (gX X) (fun xs H Q => (∃ i, xs = [.int i] ∧ Q (.int i) H) ∨ ∃ k, xs = [.bl k] ∧ Q (.int (if k then 1 else 0)) H) intD := fun F H vs ds t Q f r e k => by
  unfold intD at e
  split at e
  · cases e
    obtain ⟨v, rfl, rv⟩ := repVs1 r
    rw [rv.int]
    exact .inl ⟨_, rfl, res_sh f .int k⟩
  · cases e
    obtain ⟨v, rfl, rv⟩ := repVs1 r
    rw [rv.bl]
    exact .inr ⟨_, rfl, res_sh f .int k⟩
  · cases e
theorem on_bool : OpN (gX X) (fun xs H Q => (∃ i, xs = [.int i] ∧ Q (.bl (i != 0)) H) ∨ ∃ k, xs = [.bl k] ∧ Q (.bl k) H) boolD := fun F H vs ds t Q f r e k => by
  unfold boolD at e
  split at e
  · cases e
    obtain ⟨v, rfl, rv⟩ := repVs1 r
    rw [rv.int]
    exact .inl ⟨_, rfl, res_sh f .bl k⟩
  · cases e
    obtain ⟨v, rfl, rv⟩ := repVs1 r
    rw [rv.bl]
    exact .inr ⟨_, rfl, res_sh f .bl k⟩
  · cases e
theorem on_abs : OpN (gX X) (fun xs H Q => ∃ i, xs = [.int i] ∧ Q (.int (if i < 0 then -i else i)) H) absD := fun F H vs ds t Q f r e k => by
  unfold absD at e
  split at e
  · cases e
    obtain ⟨v, rfl, rv⟩ := repVs1 r
    rw [rv.int]
    exact ⟨_, rfl, res_sh f .int k⟩
  · cases e
theorem on_all : OpN (gX X) (rAll X.K) allD := fun F H vs ds t Q f r e k => by
  unfold allD at e
  split at e
  · obtain ⟨bs, e1, e2⟩ := Option.map_eq_some_iff.mp e
    subst e2
    obtain ⟨v, rfl, rv⟩ := repVs1 r
    obtain ⟨p, ws, rfl, h1, h2⟩ := rv.lst f
    rw [h2.blsD e1] at h1
    exact ⟨p, bs, rfl, SqL.of h1, res_sh f .bl k⟩
  · cases e
theorem on_any : OpN (gX X) (rAny X.K) anyD := fun F H vs ds t Q f r e k => by
  unfold anyD at e
  split at e
  · obtain ⟨bs, e1, e2⟩ := Option.map_eq_some_iff.mp e
    subst e2
    obtain ⟨v, rfl, rv⟩ := repVs1 r
    obtain ⟨p, ws, rfl, h1, h2⟩ := rv.lst f
    rw [h2.blsD e1] at h1
    exact ⟨p, bs, rfl, SqL.of h1, res_sh f .bl k⟩
  · cases e
theorem on_sum : OpN (gX X) (rSum X.K) sumD := fun F H vs ds t Q f r e k => by
  unfold sumD at e
  split at e
  · obtain ⟨bs, e1, e2⟩ := Option.map_eq_some_iff.mp e
    subst e2
    obtain ⟨v, rfl, rv⟩ := repVs1 r
    obtain ⟨p, ws, rfl, h1, h2⟩ := rv.lst f
    rw [h2.intsD e1] at h1
    exact ⟨p, bs, rfl, SqL.of h1, res_sh f .int k⟩
  · cases e
theorem on_tuple : OpN (gX X) (fun xs H Q => ∃ p ys, xs = [.ref p] ∧ ((SqL X.K H p ys ∧ ∀ l, H l = none → Q (.ref l) (upd H l (.tup ys))) ∨ (SqT X.K H p ys ∧ Q (.ref p) H))) tupleD := fun F H vs ds t Q f r e k => by
  unfold tupleD at e
  split at e
  · cases e
    obtain ⟨v, rfl, rv⟩ := repVs1 r
    obtain ⟨p, ws, rfl, h1, h2⟩ := rv.lst f
    exact ⟨p, ws, rfl, .inl ⟨SqL.of h1, res_tup f h2 k⟩⟩
  · cases e
    obtain ⟨v, rfl, rv⟩ := repVs1 r
    obtain ⟨p, ws, rfl, h1, h2, h3⟩ := rv.tup f
    exact ⟨p, ws, rfl, .inr ⟨h1, res_sh f h3 k⟩⟩
  · cases e
theorem on_list : OpN (gX X) (fun xs H Q => ∃ p ys, xs = [.ref p] ∧ (SqL X.K H p ys ∨ SqT X.K H p ys) ∧ ∀ l, H l = none → Q (.ref l) (upd H l (.lst ys))) listD := fun F H vs ds t Q f r e k => by
  unfold listD at e
  split at e
  · cases e
    obtain ⟨v, rfl, rv⟩ := repVs1 r
    obtain ⟨p, ws, rfl, h1, h2⟩ := rv.lst f
    exact ⟨p, ws, rfl, .inl (SqL.of h1), res_own f h2 k⟩
  · cases e
    obtain ⟨v, rfl, rv⟩ := repVs1 r
    obtain ⟨p, ws, rfl, h1, h2, h3⟩ := rv.tup f
    exact ⟨p, ws, rfl, .inr h1, res_own f h2 k⟩
  · cases e
theorem on_str : OpN (gX X) (fun xs H Q => ∃ i, xs = [.int i] ∧ i.natAbs.log2 < 1920 ∧ Q (.str (toString i)) H) strD := fun F H vs ds t Q f r e k => by
  unfold strD at e
  split at e
  · split at e
    · rename_i hz
      cases e
      obtain ⟨v, rfl, rv⟩ := repVs1 r
      rw [rv.int]
      exact ⟨_, rfl, of_decide_eq_true hz, res_sh f .str k⟩
    · cases e
  · cases e
theorem on_max2 : OpN (gX X) (fun xs H Q => ∃ i j, xs = [.int i, .int j] ∧ Q (.int (if j > i then j else i)) H) max2D := fun F H vs ds t Q f r e k => by
  unfold max2D at e
  split at e
  · cases e
    obtain ⟨v, w, rfl, rv, rw'⟩ := repVs2 r
    rw [rv.int, rw'.int]
    exact ⟨_, _, rfl, res_sh f .int k⟩
  · cases e
theorem on_min2 : OpN (gX X) (fun xs H Q => ∃ i j, xs = [.int i, .int j] ∧ Q (.int (if j < i then j else i)) H) min2D := fun F H vs ds t Q f r e k => by
  unfold min2D at e
  split at e
  · cases e
    obtain ⟨v, w, rfl, rv, rw'⟩ := repVs2 r
    rw [rv.int, rw'.int]
    exact ⟨_, _, rfl, res_sh f .int k⟩
  · cases e
end

/-! ### isinstance of built-in classes -/
def tyName : D → Option String
  | .non => some "NoneType"
  | .bl _ => some "bool"
  | .int _ => some "int"
  | .str _ => some "str"
  | .lst _ => some "list"
  | .rol _ => none
  | .tup _ => some "tuple"
  | .dk _ => some "dict"
  | _ => none
def isiTab (a b : String) : Option Bool :=
  if ["NoneType", "bool", "int", "str", "list", "tuple", "dict"].contains a && ["bool", "int", "str", "list", "tuple", "dict"].contains b then some (a == b || (a == "bool" && b == "int")) else none
theorem isiTab_ok {K : PySem.W.Frag} {a b : String} {r : Bool} (h : isiTab a b = some r) : PySem.W.kitOne K (.type a) (.type b) = some r := by
  refine kit_ty ?_
  unfold isiTab at h
  split at h
  · rename_i hc
    obtain ⟨h1, h2⟩ := Bool.and_eq_true_iff.mp hc
    have h := Option.some.inj h
    subst h
    simp only [List.contains_cons, List.contains_nil, Bool.or_false, Bool.or_eq_true, beq_iff_eq] at h1 h2
    rcases h1 with rfl | rfl | rfl | rfl | rfl | rfl | rfl <;> rcases h2 with rfl | rfl | rfl | rfl | rfl | rfl <;> decide +kernel
  · cases h
theorem tyX_of {G : Cfg} {F H : Hp} {v : V} {d : D} {n : String} (f : Same F H) (r : RepV G F H v d) (e : tyName d = some n) : TyX G.K H v (.type n) := by
  rcases r with r | ⟨p, vs, ds, rfl, rfl, h1, h2⟩
  · cases r with
    | non => cases e; exact .base .non
    | bl => cases e; exact .base (.bl _)
    | int => cases e; exact .base (.int _)
    | str => cases e; exact .base (.str _)
    | lst h _ => cases e; exact .base (.lst (f _ _ h))
    | rol h _ => cases e
    | tup h _ =>
      cases e
      rcases h with (h | ⟨o, h⟩) | ⟨o, its, n, h, c, _⟩
      · exact .base (.tup (f _ _ h))
      · exact .fTuple (f _ _ h)
      · exact .kTuple h c
    | dk h _ _ => cases e; exact .base (.dK (f _ _ h))
    | _ => cases e
  · cases e; exact .base (.lst h1)
def isiAny (a : String) : List D → Option Bool
  | [] => some false
  | .ty b :: cs => (isiTab a b).bind fun q => (isiAny a cs).map fun r => q || r
  | _ => none
def isiD : List D → Option T
  | [d, .ty b] => (tyName d).bind fun a => (isiTab a b).map fun k => .sh (.bl k)
  | [d, .tup cs] => (tyName d).bind fun a => (isiAny a cs).map fun k => .sh (.bl k)
  | _ => none
theorem isiAny_ok {G : Cfg} {F : Hp} {a : String} : ∀ {cs : List D} {vs : List V} {k : Bool}, Reps G F vs cs → isiAny a cs = some k → ∃ us, Paired ClsV vs us ∧ PySem.W.kitAny G.K (.type a) us = some k
  | [], _, _, .nil, e => by cases e; exact ⟨[], .nil, kitAny_nil⟩
  | c :: cs, _, k, .cons r t, e => by
    cases r with
    | ty =>
      rename_i vs b
      obtain ⟨q, e1, e⟩ := Option.bind_eq_some_iff.mp (show (isiTab a b).bind (fun q => (isiAny a cs).map fun r => q || r) = some k from e)
      obtain ⟨r, e2, e⟩ := Option.map_eq_some_iff.mp e
      obtain ⟨us, h1, h2⟩ := isiAny_ok t e2
      subst e
      refine ⟨.type b :: us, .cons (.ty b) h1, kitAny_cons (b := q) (isiTab_ok e1) (fun z => ?_) fun z => ?_⟩
      · subst z; rw [h2]; rfl
      · subst z; rfl
    | _ => cases e
end Pf

namespace Pf
open PySem PySem.Spec L2

/-! ### isinstance -/
section
variable {X : Cx} {fm : Fm} {m : List Nat} {W : WX} {σ : L2.St} {τ : List (V × T)} {ρ : Env}
def isi1 : List D → Option T
  | [d, .ty b] => (tyName d).bind fun a => (isiTab a b).map fun k => .sh (.bl k)
  | _ => none
theorem RepV.ty' {G : Cfg} {F H : Hp} {v : V} {n : String} (r : RepV G F H v (.ty n)) : v = .ty n := by
  rcases r with r | ⟨p, vs, ds, _, z, _⟩
  · cases r; rfl
  · cases z
theorem on_isi : OpN (gX X) (rIsi X.K) isi1 := fun F H vs ds t Q f r e k => by
  unfold isi1 at e
  split at e
  · obtain ⟨a, e1, e⟩ := Option.bind_eq_some_iff.mp e
    obtain ⟨q, e2, e⟩ := Option.map_eq_some_iff.mp e
    subst e
    obtain ⟨v, w, rfl, rv, rw'⟩ := repVs2 r
    rw [rw'.ty']
    exact ⟨_, _, _, _, q, rfl, .ty _, tyX_of f rv e1, isiTab_ok e2, res_sh f .bl k⟩
  · cases e
/-- types by their names -/
def tyAll (X : Cx) (bs : List String) : TA := fun σ H Q => Q (bs.map V.ty) H
theorem pa_tys0 : PA X [] (tyAll X []) := ⟨pa_nil.run⟩
theorem pa_tys {e : Expr} {es : List Expr} {b : String} {bs : List String} (h : PE X e (tC (.ty b))) (hr : PA X es (tyAll X bs)) (hs : starEach (e :: es) X.env = (false, eval e X.env) :: starEach es X.env := by rfl) : PA X (e :: es) (tyAll X (b :: bs)) := ⟨(pa_cons h hr hs).run⟩
def isiAll (a : String) : List String → Option Bool
  | [] => some false
  | b :: bs => (isiTab a b).bind fun q => (isiAll a bs).map fun r => q || r
theorem isiAll_ok {K : PySem.W.Frag} {a : String} : ∀ {bs : List String} {k : Bool}, isiAll a bs = some k → PySem.W.kitAny K (.type a) (bs.map Value.type) = some k
  | [], k, e => by cases e; exact kitAny_nil
  | b :: bs, k, e => by
    obtain ⟨q, e1, e⟩ := Option.bind_eq_some_iff.mp e
    obtain ⟨r, e2, e⟩ := Option.map_eq_some_iff.mp e
    have h2 := isiAll_ok (K := K) e2
    subst e
    exact kitAny_cons (b := q) (isiTab_ok e1) (fun z => by subst z; rw [h2]; rfl) fun z => by subst z; rfl
theorem paired_tys : ∀ (bs : List String), Paired ClsV (bs.map V.ty) (bs.map Value.type)
  | [] => .nil
  | b :: bs => .cons (.ty b) (paired_tys bs)
def eIsiT (bs : List String) (fa : Env → R T) : Env → R T := fun ρ => (fa ρ).bind fun t ρ1 => opt ((view ρ1 t).bind fun d => (tyName d).bind fun a => (isiAll a bs).map fun k => T.sh (.bl k)) ρ1
theorem se_isiT {x : Str} {e : Expr} {es : List Expr} {bs : List String} {fa : Env → R T} {p pos p2 : Pos} {k2} (hx : x = ("isinstance" : Str)) (hmg : X.mg x = none) (ha : SE X m W e fa) (hb : PA X es (tyAll X bs)) (hn9 : bs.length ≤ sizeLine := by decide)
    (hg : Gl X x := by rfl) (hv : bootBuiltins x = some (.builtin "isinstance") := by rfl) (hn : x ≠ "__name__" := by decide) (hdb : (x == ("__debug__" : Str)) = false := by decide)
    (he : starEach [e, .Tuple es k2 p2] X.env = (false, eval e X.env) :: starEach [.Tuple es k2 p2] X.env := by rfl) (he2 : starEach [.Tuple es k2 p2] X.env = (false, eval (.Tuple es k2 p2) X.env) :: starEach [] X.env := by rfl) (hpl : (backTo pos (starEach [.Tuple es k2 p2] X.env)).any (·.1) = false := by rfl) :
    SE X m W (.Call (.Name x p) [e, .Tuple es k2 p2] [] pos) (eIsiT bs fa) := fun fm hm ρ σ τ F H Q g q => by
  refine tE_of (pe_callB call_isiT hg hmg hv (pa_cons pe_tE (pa_cons (pe_tup hb) pa_nil he2) he) hn hdb he hpl) ?_
  refine se_bind hm ha g q fun t ρ1 v F' H' g' q' => ?_
  unfold opt at q'
  split at q'
  · rename_i t' e1
    obtain ⟨d, e2, e1⟩ := Option.bind_eq_some_iff.mp e1
    obtain ⟨a, e3, e1⟩ := Option.bind_eq_some_iff.mp e1
    obtain ⟨k, e4, e1⟩ := Option.map_eq_some_iff.mp e1
    subst e1
    refine ⟨by rw [List.length_map]; exact hn9, fun l hl => ?_⟩
    have gr := Grow.new (o := HO.tup (bs.map V.ty)) g'.FH hl
    have g2 := g'.grow gr
    exact ⟨_, l, _, _, _, k, rfl, upd_same, paired_tys bs, tyX_of g2.FH (g2.view e2) e3, isiAll_ok e4, q' _ _ _ (g2.pop.pushSh .bl)⟩
  · exact q'.elim

/-! ### subscripts, slices -/
theorem Reps.atI {G : Cfg} {F : Hp} {vs : List V} {ds : List D} {i : Int} {d : D} (r : Reps G F vs ds) (e : L2.atI ds i = some d) : ∃ v, L2.atI vs i = some v ∧ Rep G F v d := by
  unfold L2.atI at e ⊢
  rw [← r.length] at e
  obtain ⟨j, e1, e2⟩ := Option.bind_eq_some_iff.mp e
  obtain ⟨v, e3, r'⟩ := r.get e2
  exact ⟨v, by rw [e1]; exact e3, r'⟩
def ixD : D → D → Option T
  | .lst xs, .int i => (L2.atI xs i).map .sh
  | .rol xs, .int i => (L2.atI xs i).map .sh
  | .tup xs, .int i => (L2.atI xs i).map .sh
  | .str z, .int i => if sz z.length = true then (L2.atI z.cps.toList i).map fun c => .sh (.str ⟨#[c]⟩) else none
  | _, _ => none
theorem o2_ix : Op2 (gX X) (rIx X.K) ixD := fun F H x y dx dy t Q f rx ry e k => by
  unfold ixD at e
  split at e
  · obtain ⟨d, e1, e2⟩ := Option.map_eq_some_iff.mp e
    subst e2
    rw [ry.int]
    obtain ⟨p, ws, rfl, h1, h2⟩ := rx.lst f
    obtain ⟨v, e3, r⟩ := h2.atI e1
    exact .inl ⟨_, _, _, _, rfl, rfl, SqL.of h1, e3, res_sh f r k⟩
  · obtain ⟨d, e1, e2⟩ := Option.map_eq_some_iff.mp e
    subst e2
    rw [ry.int]
    obtain ⟨p, ws, rfl, h1, h2⟩ := rx.rol f
    obtain ⟨v, e3, r⟩ := h2.atI e1
    exact .inl ⟨_, _, _, _, rfl, rfl, h1, e3, res_sh f r k⟩
  · obtain ⟨d, e1, e2⟩ := Option.map_eq_some_iff.mp e
    subst e2
    rw [ry.int]
    obtain ⟨p, ws, rfl, h1, h2, _⟩ := rx.tup f
    obtain ⟨v, e3, r⟩ := h2.atI e1
    exact .inr (.inl ⟨_, _, _, _, rfl, rfl, h1, e3, res_sh f r k⟩)
  · split at e
    · rename_i hz
      obtain ⟨d, e1, e2⟩ := Option.map_eq_some_iff.mp e
      subst e2
      rw [ry.int, rx.str]
      exact .inr (.inr ⟨_, _, _, rfl, rfl, of_decide_eq_true hz, e1, res_sh f .str k⟩)
    · cases e
  · cases e
theorem se_sub_ix {a b : Expr} {fa fb : Env → R T} {pos : Pos} (ha : SE X m W a fa) (hb : SE X m W b fb) (hp : PlainIx b := by exact fun _ _ => rfl) : SE X m W (.Subscript a b pos) (e2 ixD fa fb) := se_ix ix_seq o2_ix ha hb hp

/-- a part of a slice -/
def SO (X : Cx) (m : List Nat) (W : WX) (o : Option Expr) (f : Env → R (Option Int)) : Prop := ∃ t, PO X o t ∧ ∀ fm, Pins fm m → ∀ ρ σ τ F H (Q : Option Int → Hp → Prop), Good (gX X) fm ρ σ τ F H →
  (match f ρ with | .ok o ρ' => ∀ F' H', Good (gX X) fm ρ' σ τ F' H' → Q o H' | .ex x ρ' => PostX X fm W σ τ x ρ' | .bad => False) → t σ H Q
def oNone : Env → R (Option Int) := fun ρ => .ok none ρ
def oSome (fa : Env → R T) : Env → R (Option Int) := fun ρ => (fa ρ).bind fun t ρ1 => match view ρ1 t with
  | some (.int i) => .ok (some i) ρ1
  | _ => .bad
theorem so_none : SO X m W none oNone := ⟨_, po_none, fun fm hm ρ σ τ F H Q g q => q F H g⟩
theorem so_some {e : Expr} {fa : Env → R T} (h : SE X m W e fa) : SO X m W (some e) (oSome fa) := ⟨_, po_some pe_tE, fun fm hm ρ σ τ F H Q g q => by
  refine h fm hm ρ σ τ F H _ g ?_
  have q : (match (fa ρ).bind (fun t ρ1 => match view ρ1 t with
      | some (.int i) => R.ok (some i) ρ1
      | _ => .bad) with | .ok o ρ' => ∀ F' H', Good (gX X) fm ρ' σ τ F' H' → Q o H' | .ex x ρ' => PostX X fm W σ τ x ρ' | .bad => False) := q
  cases e1 : fa ρ with
  | ok t ρ1 =>
    rw [e1] at q
    intro v F' H' g'
    have q : (match (match view ρ1 t with
      | some (.int i) => R.ok (some i) ρ1
      | _ => R.bad) with | .ok o ρ' => ∀ F' H', Good (gX X) fm ρ' σ τ F' H' → Q o H' | .ex x ρ' => PostX X fm W σ τ x ρ' | .bad => False) := q
    split at q
    · rename_i heq
      split at heq
      · rename_i i e2
        cases heq
        have := (g'.view e2).int
        subst this
        exact ⟨i, rfl, q _ _ g'.pop⟩
      · cases heq
    · rename_i heq; split at heq <;> cases heq
    · exact q.elim
  | ex x ρ1 => rw [e1] at q; exact q
  | bad => rw [e1] at q; exact q⟩
def cutD (xs : List D) (lo hi : Option Int) : List D := (xs.drop (HT.sIx xs.length 0 lo)).take (HT.sIx xs.length xs.length hi - HT.sIx xs.length 0 lo)
theorem Reps.cut {G : Cfg} {F : Hp} {vs : List V} {ds : List D} (r : Reps G F vs ds) (lo hi : Option Int) : Reps G F (cutV vs lo hi) (cutD ds lo hi) := by
  unfold cutV cutD
  rw [r.length]
  exact (r.drop _).take _
def slD (d : D) (lo hi : Option Int) : Option T := match d with
  | .lst xs => some (.own (cutD xs lo hi))
  | .rol xs => some (.own (cutD xs lo hi))
  | .tup xs => if HT.sIx xs.length 0 lo = 0 ∧ HT.sIx xs.length xs.length hi = xs.length then none else some (.sh (.tup (cutD xs lo hi)))
  | .str z => if sz z.length = true then some (.sh (.str (Txt.slice z lo hi))) else none
  | _ => none
abbrev rSlA (K : PySem.W.Frag) : V → Option Int → Option Int → Hp → VK → Prop := fun x lo hi H Q => rSlL K x lo hi H Q ∨ rSlT K x lo hi H Q ∨ C8.rSlX x lo hi H Q
theorem sl_any : SlR X (rSlA X.K) := sl_list.or (sl_tup.or C8.sl_txt)
def eSl (fa : Env → R T) (lo hi : Env → R (Option Int)) : Env → R T := fun ρ => (fa ρ).bind fun t ρ1 => (lo ρ1).bind fun l ρ2 => (hi ρ2).bind fun h ρ3 => opt ((view ρ3 t).bind fun d => slD d l h) ρ3
theorem se_sl {e : Expr} {lo hi : Option Expr} {fa : Env → R T} {fl fh : Env → R (Option Int)} {p2 pos : Pos} (ha : SE X m W e fa) (hl : SO X m W lo fl) (hh : SO X m W hi fh) : SE X m W (.Subscript e (.Slice lo hi none p2) pos) (eSl fa fl fh) := fun fm hm ρ σ τ F H Q g q => by
  obtain ⟨tl, pl, rl⟩ := hl
  obtain ⟨th, ph, rh⟩ := hh
  refine tE_of (pe_slice sl_any pe_tE pl ph) (se_bind hm ha g q fun t ρ1 v F1 H1 g1 q1 => ?_)
  refine rl fm hm ρ1 σ _ F1 H1 _ g1 ?_
  have q1 : PostE X fm W σ τ ((fl ρ1).bind fun l ρ2 => (fh ρ2).bind fun h ρ3 => opt ((view ρ3 t).bind fun d => slD d l h) ρ3) Q := q1
  cases e1 : fl ρ1 with
  | ex x ρ2 => rw [e1] at q1; exact PostX.pop q1
  | bad => rw [e1] at q1; exact q1
  | ok l ρ2 =>
    rw [e1] at q1
    intro F2 H2 g2
    refine rh fm hm ρ2 σ _ F2 H2 _ g2 ?_
    have q1 : PostE X fm W σ τ ((fh ρ2).bind fun h ρ3 => opt ((view ρ3 t).bind fun d => slD d l h) ρ3) Q := q1
    cases e2 : fh ρ2 with
    | ex x ρ3 => rw [e2] at q1; exact PostX.pop q1
    | bad => rw [e2] at q1; exact q1
    | ok h ρ3 =>
      rw [e2] at q1
      intro F3 H3 g3
      have q1 : PostE X fm W σ τ (opt ((view ρ3 t).bind fun d => slD d l h) ρ3) Q := q1
      unfold opt at q1
      split at q1
      · rename_i t' e3
        obtain ⟨d, e4, e5⟩ := Option.bind_eq_some_iff.mp e3
        have rv := g3.view e4
        unfold slD at e5
        split at e5
        · cases e5
          obtain ⟨p, ws, rfl, h1, h2⟩ := rv.lst g3.FH
          exact .inl ⟨_, _, rfl, SqL.of h1, res_own g3.FH (h2.cut l h) fun v F' H' k r => q1 v F' H' (g3.pop.res k r)⟩
        · cases e5
          obtain ⟨p, ws, rfl, h1, h2⟩ := rv.rol g3.FH
          exact .inl ⟨_, _, rfl, h1, res_own g3.FH (h2.cut l h) fun v F' H' k r => q1 v F' H' (g3.pop.res k r)⟩
        · split at e5
          · cases e5
          · rename_i hn
            cases e5
            obtain ⟨p, ws, rfl, h1, h2, _⟩ := rv.tup g3.FH
            exact .inr (.inl ⟨_, _, rfl, h1, by rw [h2.length]; exact hn, res_tup g3.FH (h2.cut l h) fun v F' H' k r => q1 v F' H' (g3.pop.res k r)⟩)
        · split at e5
          · rename_i hz
            cases e5
            rw [rv.str]
            exact .inr (.inr ⟨_, rfl, of_decide_eq_true hz, q1 _ _ _ (g3.pop.pushSh .str)⟩)
          · cases e5
        · cases e5
      · exact q1.elim

/-! ### methods of a slot's own list -/
def OpL (G : Cfg) (r : V → List V → Hp → VK → Prop) (op : List D → List D → Option (D × List D)) : Prop := ∀ F H p ws vs ds0 ds d ds1 Q, Same F H → H p = some (.lst ws) → Reps G F ws ds0 → Reps G F vs ds → op ds0 ds = some (d, ds1) →
  (∀ v vs', Rep G F v d → Reps G F vs' ds1 → Q v (upd H p (.lst vs'))) → r (.ref p) vs H Q
def eBM (i : Nat) (op : List D → List D → Option (D × List D)) (fs : Env → R (List T)) : Env → R T := fun ρ => match ρ[i]? with
  | some (some (.own _)) => (fs ρ).bind fun ts ρ1 => match ρ1[i]?, shs ts with
    | some (some (.own ds0)), some ds => match op ds0 ds with
      | some (d, ds1) => .ok (.sh d) (ρ1.set i (some (.own ds1)))
      | none => .bad
    | _, _ => .bad
  | _ => .bad
theorem pushAll_append : ∀ {vs : List V} {ts : List T} {τ : List (V × T)} {v : V} {t : T} {G : Cfg} {F H : Hp}, Good G fm ρ σ (pushAll vs ts ((v, t) :: τ)) F H → Good G fm ρ σ ((v, t) :: τ) F H := fun g => pushAll_pop _ _ _ g
theorem bm_end {G : Cfg} {i : Nat} {op : List D → List D → Option (D × List D)} {r : V → List V → Hp → VK → Prop} (hr : OpL G r op) {ts : List T} {vs : List V} {F H : Hp} {v : V} {ds0 ds ds1 : List D} {d : D} {Q : VK} (hl : vs.length = ts.length)
    (g : Good G fm ρ σ (pushAll vs ts ((v, .al i) :: τ)) F H) (e0 : ρ[i]? = some (some (.own ds0))) (e1 : shs ts = some ds) (e2 : op ds0 ds = some (d, ds1)) (q : ∀ v' H', Good G fm (ρ.set i (some (.own ds1))) σ ((v', .sh d) :: τ) F H' → Q v' H') : r v vs H Q ∧ ∃ p ws, v = .ref p ∧ H p = some (.lst ws) := by
  have rs := pushAll_shs hl g e1
  have ga := pushAll_pop _ _ _ g
  have hv : σ[i]? = some (some v) := by
    obtain ⟨_, _, _, l, _, _⟩ := ga.own
    cases l with
    | cons r _ => cases r with | al z => exact z
  have g0 := ga.pop
  obtain ⟨p, ws, q1, q2, q3, mu⟩ := g0.mutate e0
  rw [hv] at q1; cases q1
  exact ⟨hr F H p ws vs ds0 ds d ds1 Q g0.FH q2 q3 rs e2 fun v' vs' r1 r2 => q v' _ ((mu vs' ds1 r2).pushSh r1), p, ws, rfl, q2⟩
theorem se_bm {i : Nat} {x name id : Str} {op : List D → List D → Option (D × List D)} {r : V → List V → Hp → VK → Prop} {e : Expr} {es : List Expr} {fs : Env → R (List T)} {p apos cpos : Pos} {idS : String} (hr : OpL (gX X) r op) (slot : Slot "list" name idS)
    (hty : typeOf (.builtin idS) = pure (.type "method_descriptor")) (hm' : MtR X idS r) (ha : SA X m W (e :: es) fs) (hN : X.N[i]? = some x := by rfl) (hv : Vis X.env.scope x := by first | exact Or.inl rfl | exact Or.inr (Or.inl rfl) | exact Or.inr (Or.inr rfl)) (hd : (x == ("__debug__" : Str)) = false := by decide)
    (hcd : (x == ("__classdict__" : Str)) = false := by decide)
    (hbase : attributeBase (.Name x p) name X.env (eval (.Name x p) X.env) = eval (.Name x p) X.env := by rfl)
    (hfew : ((backTo cpos (starEach (e :: es) X.env)).all (fun x => !x.1) && (backToKw cpos (keywordEach [] X.env)).all (fun x => x.1.isSome)
      && decide ((e :: es).length + ([] : List Keyword).length + (if ([] : List Keyword).isEmpty then 0 else 1) < 30)) = true := by rfl)
    (hline : (apos.endLine == cpos.line) = true := by rfl) (hs : starEach (e :: es) X.env = (false, eval e X.env) :: starEach es X.env := by rfl) (hplain : (backTo cpos (starEach es X.env)).any (·.1) = false := by rfl) :
    SE X m W (.Call (.Attribute (.Name x p) name apos) (e :: es) [] cpos) (eBM i op fs) := fun fm hm ρ σ τ F H Q g q => by
  obtain ⟨t, pa, rr⟩ := ha
  unfold eBM at q
  split at q
  · rename_i dsx e0
    refine tE_of (pe_bm PySem.F.plainAttrs_list slot hty hm' (pe_var hN hv hd hcd) pa hbase hfew hline hs hplain) ?_
    obtain ⟨pp, vs0, q1, q2, _, _⟩ := g.mutate e0
    have ga : Good (gX X) fm ρ σ ((.ref pp, .al i) :: τ) F H := g.pushAl q1
    refine ⟨_, q1, .inl ⟨rfl, _, SqL.of q2⟩, ?_⟩
    refine rr fm hm ρ σ _ F H _ ga ?_
    cases e1 : fs ρ with
    | ex y ρ1 => rw [e1] at q; exact PostX.pop q
    | bad => rw [e1] at q; exact q
    | ok ts ρ1 =>
      rw [e1] at q
      intro vs F' H' hl g'
      have q : PostE X fm W σ τ (match ρ1[i]?, shs ts with
        | some (some (.own ds0)), some ds => match op ds0 ds with
          | some (d, ds1) => R.ok (T.sh d) (ρ1.set i (some (.own ds1)))
          | none => .bad
        | _, _ => .bad) Q := q
      split at q
      · rename_i ds0 ds e2 e3
        split at q
        · rename_i d ds1 e4
          exact (bm_end hr hl g' e2 e3 e4 fun v' H2 g2 => q v' F' H2 g2).1
        · exact q.elim
      · exact q.elim
  · exact q.elim
end
def appD : List D → List D → Option (D × List D)
  | xs, [d] => if decide (xs.length < sizeLine) = true then some (.non, xs ++ [d]) else none
  | _, _ => none
def extD : List D → List D → Option (D × List D)
  | xs, [.lst ys] => if decide (xs.length + ys.length ≤ sizeLine) = true then some (.non, xs ++ ys) else none
  | _, _ => none
section
variable {X : Cx} {fm : Fm} {m : List Nat} {W : WX} {σ : L2.St} {τ : List (V × T)} {ρ : Env}
theorem ol_app {G : Cfg} : OpL G rAppend appD := fun F H p ws vs ds0 ds d ds1 Q f h0 r0 r e k => by
  unfold appD at e
  split at e
  · split at e
    · rename_i hz
      cases e
      cases r with
      | cons r t =>
        cases t
        exact ⟨_, _, _, rfl, rfl, h0, by rw [r0.length]; exact of_decide_eq_true hz, k _ _ .non (r0.append (.cons r .nil))⟩
    · cases e
  · cases e
theorem ol_ext {G : Cfg} : OpL G rExtend extD := fun F H p ws vs ds0 ds d ds1 Q f h0 r0 r e k => by
  unfold extD at e
  split at e
  · split at e
    · rename_i hz
      cases e
      cases r with
      | cons r t =>
        cases t
        cases r with
        | lst h1 h2 =>
          exact ⟨_, _, _, _, rfl, rfl, h0, f _ _ h1, by rw [r0.length, h2.length]; exact of_decide_eq_true hz, k _ _ .non (r0.append h2)⟩
    · cases e
  · cases e

/-! ### stores into a slot's own list -/
def sIxK (i : Nat) (d : D) (tk : T) (ρ2 : Env) : RS := match view ρ2 tk, ρ2[i]? with
  | some (.int k), some (some (.own ds)) => match ixN ds.length k with
    | some j => .nx (ρ2.set i (some (.own (ds.set j d))))
    | none => .bad
  | _, _ => .bad
def sIxJ (i : Nat) (fk : Env → R T) (tv : T) (ρ1 : Env) : RS := match tv, ρ1[i]? with
  | .sh d, some (some (.own _)) => (fk ρ1).s fun tk ρ2 => sIxK i d tk ρ2
  | _, _ => .bad
def sIx (i : Nat) (fv fk : Env → R T) : Env → RS := fun ρ => (fv ρ).s fun tv ρ1 => sIxJ i fk tv ρ1
theorem ss_ix {i : Nat} {x : Str} {e k : Expr} {fv fk : Env → R T} {p pos pos' : Pos} (he : SE X m W e fv) (hk : SE X m W k fk) (hN : X.N[i]? = some x := by rfl) (hv : Vis X.env.scope x := by first | exact Or.inl rfl | exact Or.inr (Or.inl rfl) | exact Or.inr (Or.inr rfl)) (hd : (x == ("__debug__" : Str)) = false := by decide)
    (hcd : (x == ("__classdict__" : Str)) = false := by decide)
    (ha : ∀ v, assign (.Subscript (.Name x p) k pos') X.env v = (do
      let ov ← holding [v] (eval (.Name x p) X.env)
      let iv ← holding [v, ov] (eval k X.env)
      standAt pos'
      holding [v, ov, iv] (setItem ov iv v)
      release [v, ov, iv] []) := by intro _; rfl)
    (hs : swapsWithSole [.Subscript (.Name x p) k pos'] e pos.line X.env = pure false := by rfl) (hw : swappedStores [.Subscript (.Name x p) k pos'] e X.env = pure none := by rfl)
    (h1 : (assignEach [.Subscript (.Name x p) k pos'] X.env).map (·.2) = [assign (.Subscript (.Name x p) k pos') X.env] := by rfl) :
    SS X m W (.Assign [.Subscript (.Name x p) k pos'] e pos) (sIx i fv fk) := fun fm hm ρ σ τ F H D na g q => by
  refine tS_of (ps_asg pe_tE (pg_sub (pe_var hN hv hd hcd) pe_tE set_list ha) hs hw h1) ?_
  refine ss_s hm he g q fun tv ρ1 v F1 H1 g1 q1 => ?_
  unfold sIxJ at q1
  split at q1
  · rename_i d dsx e0
    obtain ⟨pp, vs0, s1, s2, _, _⟩ := g1.mutate e0
    refine ⟨_, s1, ?_⟩
    have ga : Good (gX X) fm ρ1 σ ((.ref pp, .al i) :: (v, .sh d) :: τ) F1 H1 := g1.pushAl s1
    refine hk fm hm ρ1 σ _ F1 H1 _ ga ?_
    cases e1 : fk ρ1 with
    | ex y ρ2 => rw [e1] at q1; exact PostX.pop (PostX.pop (q1 σ))
    | bad => rw [e1] at q1; exact q1
    | ok tk ρ2 =>
      rw [e1] at q1
      intro u F2 H2 g2
      have q1 : PostS X fm W τ (sIxK i d tk ρ2) D := q1
      unfold sIxK at q1
      split at q1
      · rename_i kk ds e2 e3
        split at q1
        · rename_i j e4
          have hu := (g2.view e2).int
          subst hu
          have g3 := g2.pop.pop
          obtain ⟨p2, ws, t1, t2, t3, mu⟩ := g3.mutate e3
          rw [s1] at t1; cases t1
          refine ⟨pp, ws, kk, j, rfl, rfl, t2, by rw [t3.length]; exact e4, ?_⟩
          exact q1 _ _ _ (mu _ _ (t3.set j g3.topSh)).pop
        · exact q1.elim
      · exact q1.elim
  all_goals exact q1.elim

/-! ### several names -/
def gL (gs : List (D → Env → Option Env)) : D → Env → Option Env := fun d ρ => match d with
  | .lst ds => gAll gs ds ρ
  | _ => none
theorem sg_lst {G : Cfg} {n : Nat} {g : TGs} {gs : List (D → Env → Option Env)} (h : SGs G m n g gs) : SGd G m (gLst G.K n g) (gL gs) := fun fm hm ρ σ τ F H v d ρ' Q na gd r e q => by
  cases r with
  | lst ht rs =>
    have e : gAll gs _ ρ = some ρ' := e
    refine ⟨_, _, rfl, sqL_mono gd.FH (SqL.of ht), ?_, h.2 fm hm ρ σ τ F H _ _ ρ' Q na gd rs e q⟩
    rw [rs.length, gAll_len e, h.1]
  | _ => cases e
def sUnp (gt : D → Env → Option Env) (fa : Env → R T) : Env → RS := fun ρ => (fa ρ).s fun t ρ1 => match t with
  | .sh d => match gt d ρ1 with
    | some ρ2 => .nx ρ2
    | none => .bad
  | _ => .bad
theorem ss_unp {tg e : Expr} {g : TG} {gt : D → Env → Option Env} {fa : Env → R T} {pos : Pos} (he : SE X m W e fa) (hg : PG X tg g) (hgt : SGd (gX X) m g gt) (hs : swapsWithSole [tg] e pos.line X.env = pure false := by rfl) (hw : swappedStores [tg] e X.env = pure none := by rfl)
    (h1 : (assignEach [tg] X.env).map (·.2) = [assign tg X.env] := by rfl) : SS X m W (.Assign [tg] e pos) (sUnp gt fa) := fun fm hm ρ σ τ F H D na gd q => by
  refine tS_of (ps_asg pe_tE hg hs hw h1) (ss_s hm he gd q fun t ρ1 v F' H' g' q' => ?_)
  split at q'
  · rename_i d
    split at q'
    · rename_i ρ2 e1
      exact hgt fm hm ρ1 σ τ F' H' v d ρ2 _ na g'.pop g'.topSh e1 fun σ' F2 H2 g2 => q' σ' F2 H2 g2
    · exact q'.elim
  · exact q'.elim
/-- a, b = e1, e2 -/
def parK (i j : Nat) (ts : List T) (ρ1 : Env) : RS := match ts with
  | [.sh a, .sh b] => .nx ((ρ1.set i (some (.sh a))).set j (some (.sh b)))
  | _ => .bad
def sPar (i j : Nat) (fs : Env → R (List T)) : Env → RS := fun ρ => (fs ρ).s fun ts ρ1 => parK i j ts ρ1
theorem ss_par (cx : Cok X) (i j : Nat) {x y : Str} {a b : Expr} {fs : Env → R (List T)} {px py pt pt2 pos : Pos} {kt k2} (ha : SA X m W [a, b] fs) (hi : i ∉ m := by decide) (hj : j ∉ m := by decide) (hNi : X.N[i]? = some x := by rfl) (hNj : X.N[j]? = some y := by rfl) (hij : i ≠ j := by decide)
    (hx : X.env.scope.names.lookup x = some .local := by rfl) (hy : X.env.scope.names.lookup y = some .local := by rfl)
    (hw : swappedStores [.Tuple [.Name x px, .Name y py] kt pt] (.Tuple [a, b] k2 pt2) X.env = pure (some [x, y]) := by rfl)
    (hs : swapsWithSole [.Tuple [.Name x px, .Name y py] kt pt] (.Tuple [a, b] k2 pt2) pos.line X.env = pure false := by rfl) :
    SS X m W (.Assign [.Tuple [.Name x px, .Name y py] kt pt] (.Tuple [a, b] k2 pt2) pos) (sPar i j fs) := fun fm hm ρ σ τ F H D na g q => by
  obtain ⟨t, pa, r⟩ := ha
  refine tS_of (ps_par cx.calm cx.nd hNi hNj hij hx hy pa hw hs) ?_
  refine r fm hm ρ σ τ F H _ g ?_
  have q : PostS X fm W τ ((fs ρ).s fun ts ρ1 => parK i j ts ρ1) D := q
  cases e1 : fs ρ with
  | ex z ρ1 => rw [e1] at q; exact q σ
  | bad => rw [e1] at q; exact q
  | ok ts ρ1 =>
    rw [e1] at q
    intro vs F' H' hl g'
    have q : PostS X fm W τ (parK i j ts ρ1) D := q
    unfold parK at q
    split at q
    · match vs, hl with
      | [v, w], _ =>
        rw [pushAll_cons, pushAll_cons] at g'
        have g1 := g'
        change Good (gX X) fm ρ1 σ ((w, .sh _) :: (v, .sh _) :: τ) F' H' at g1
        have rb := g1.topSh
        have ra := g1.pop.topSh
        have g2 := g1.pop.putSh hm hi na
        exact ⟨v, w, rfl, q _ _ _ ((g2.pushSh rb).putSh hm hj na)⟩
    · exact q.elim
/-- a name of a built-in type -/
theorem pe_ty {x : Str} {b : String} {pos : Pos} (hmg : X.mg x = none) (hv : bootBuiltins x = some (.type b) := by rfl) (hg : Gl X x := by rfl) (hn : x ≠ "__name__" := by decide) (hd : (x == ("__debug__" : Str)) = false := by decide) : PE X (.Name x pos) (tC (.ty b)) := pe_bltn hg hmg hv rfl hn hd
theorem se_ty {x : Str} {b : String} {pos : Pos} (hmg : X.mg x = none) (hv : bootBuiltins x = some (.type b) := by rfl) (hg : Gl X x := by rfl) (hn : x ≠ "__name__" := by decide) (hd : (x == ("__debug__" : Str)) = false := by decide) : SE X m W (.Name x pos) (eC (.ty b)) := se_c (pe_ty hmg hv hg hn hd) fun _ => .ty
end
end Pf

namespace Pf
open PySem PySem.Spec L2

/-! ### repr of lists and tuples -/
def seqD : D → Bool
  | .lst _ => true
  | .rol _ => true
  | .tup _ => true
  | _ => false
def reprD : List D → Option T
  | [d] => (toPy d).bind fun p => if (seqD d && p.showable && !p.hasDict && decide (p.depth ≤ 60) && sz p.shown.length) = true then some (.sh (.str p.shown)) else none
  | _ => none
section
variable {X : Cx} {fm : Fm} {m : List Nat} {W : WX} {σ : L2.St} {τ : List (V × T)} {ρ : Env}
abbrev rRepr (K : PySem.W.Frag) : List V → Hp → VK → Prop := fun xs H Q => ∃ (a : Addr) (p : PyData), xs = [.ref a] ∧ Dp K H (.ref a) p ∧ p.showable = true ∧ p.hasDict = false ∧ p.depth ≤ 60 ∧ p.shown.length ≤ sizeLine ∧ Q (.str p.shown) H
theorem call_repr {j : Nat} (hr : Rm j X.A) : CallR X (.builtin "repr") (rRepr X.K) := by
  intro pins s σ H xs us Q I r h
  obtain ⟨a, p, rfl, dp, h1, h2, h3, h4, q⟩ := h
  obtain ⟨u, rfl, ru⟩ := vals1 r
  obtain ⟨as, rd⟩ := Dp.reads I p (.ref a) u dp ru
  cases (show u = Value.ref a from ru)
  have hu := hr.r.units
  refine repr_of_reads' rd h1 (PyData.noDict_hsm h2) hr.g (by omega) (fun _ _ e => e) (fun h' u tk hk => ?_) h4
  exact ⟨.str p.shown, H, I.kept (t' := tk) hk, ⟨u, rfl⟩, q⟩
theorem on_repr : OpN (gX X) (rRepr X.K) reprD := fun F H vs ds t Q f r e k => by
  unfold reprD at e
  split at e
  · rename_i d
    obtain ⟨p, e1, e⟩ := Option.bind_eq_some_iff.mp e
    split at e
    · rename_i hc
      cases e
      simp only [Bool.and_eq_true, Bool.not_eq_true', decide_eq_true_eq] at hc
      obtain ⟨⟨⟨⟨c1, c2⟩, c3⟩, c4⟩, c5⟩ := hc
      obtain ⟨v, rfl, rv⟩ := repVs1 r
      have dp := rv.dp f e1
      have hv : ∃ a, v = .ref a := by
        cases d with
        | lst xs => obtain ⟨q, ws, rfl, _⟩ := rv.lst f; exact ⟨_, rfl⟩
        | rol xs => obtain ⟨q, ws, rfl, _⟩ := rv.rol f; exact ⟨_, rfl⟩
        | tup xs => obtain ⟨q, ws, rfl, _⟩ := rv.tup f; exact ⟨_, rfl⟩
        | _ => cases c1
      obtain ⟨a, rfl⟩ := hv
      exact ⟨a, p, rfl, dp, c2, c3, c4, of_decide_eq_true c5, res_sh f .str k⟩
    · cases e
  · cases e

/-! ### keywords -/
def perm {α : Type} (π : List Nat) (xs : List α) : List α := π.filterMap fun i => xs[i]?
theorem perm_vals {vs : List V} {us : List Value} (r : Vals vs us) : ∀ π, Vals (perm π vs) (perm π us)
  | [] => .nil
  | i :: π => by
    have ih := perm_vals r π
    unfold perm at ih ⊢
    cases e : vs[i]? with
    | none =>
      have e2 : us[i]? = none := by rw [List.getElem?_eq_none_iff] at e ⊢; rw [← r.length]; exact e
      rw [List.filterMap_cons_none e, List.filterMap_cons_none e2]; exact ih
    | some v =>
      obtain ⟨u, e2, rr⟩ := r.get e
      rw [List.filterMap_cons_some e, List.filterMap_cons_some e2]; exact .cons rr ih
theorem perm_reps {G : Cfg} {F : Hp} {vs : List V} {us : List D} (r : Reps G F vs us) : ∀ π, Reps G F (perm π vs) (perm π us)
  | [] => .nil
  | i :: π => by
    have ih := perm_reps r π
    unfold perm at ih ⊢
    cases e : vs[i]? with
    | none =>
      have e2 : us[i]? = none := by rw [List.getElem?_eq_none_iff] at e ⊢; rw [← r.length]; exact e
      rw [List.filterMap_cons_none e, List.filterMap_cons_none e2]; exact ih
    | some v =>
      obtain ⟨u, e2, rr⟩ := r.getV e
      rw [List.filterMap_cons_some e, List.filterMap_cons_some e2]; exact .cons rr ih
/-- a call of n values by place and the keywords ks binds the values in the order π -/
def KB (K : PySem.W.Frag) (fd : FuncData) (ps : List Str) (n : Nat) (ks : List Str) (π : List Nat) : Prop := ∀ (s : Shared) (us ws : List Value), K.In s.heap → us.length = n → ws.length = ks.length → BindsTo s fd ⟨us, ks.zip ws⟩ (ps.zip (perm π (us ++ ws)))
def SK (X : Cx) (m : List Nat) (W : WX) (kws : List Keyword) (f : Env → R (List T)) : Prop := ∃ t, PK X kws t ∧ ∀ fm, Pins fm m → ∀ ρ σ τ F H Q, Good (gX X) fm ρ σ τ F H → PostA X fm W σ τ (f ρ) Q → t σ H Q
theorem sk_nil : SK X m W [] aNil := ⟨tNil, pk_nil, fun fm hm ρ σ τ F H Q g q => q [] F H rfl g⟩
theorem acons_run {e : Expr} {fa : Env → R T} {fs : Env → R (List T)} {tr : TA} (h : SE X m W e fa) (r : ∀ fm, Pins fm m → ∀ ρ σ τ F H Q, Good (gX X) fm ρ σ τ F H → PostA X fm W σ τ (fs ρ) Q → tr σ H Q) :
    ∀ fm, Pins fm m → ∀ ρ σ τ F H Q, Good (gX X) fm ρ σ τ F H → PostA X fm W σ τ (aCons fa fs ρ) Q → tCons (tE X e) tr σ H Q := fun fm hm ρ σ τ F H Q g q => by
  refine h fm hm ρ σ τ F H _ g ?_
  unfold aCons at q
  cases e1 : fa ρ with
  | ok t ρ1 =>
    rw [e1] at q
    refine fun v F' H' g' => r fm hm ρ1 σ _ F' H' _ g' ?_
    have q : PostA X fm W σ τ ((fs ρ1).bind fun ts ρ2 => R.ok (t :: ts) ρ2) Q := q
    cases e2 : fs ρ1 with
    | ok ts ρ2 =>
      rw [e2] at q
      intro vs F2 H2 hl g2
      exact q (v :: vs) F2 H2 (by simp [hl]) (by rw [pushAll_cons]; exact g2)
    | ex x ρ2 => rw [e2] at q; exact PostX.pop q
    | bad => rw [e2] at q; exact q
  | ex x ρ1 => rw [e1] at q; exact q
  | bad => rw [e1] at q; exact q
theorem sk_cons {e : Expr} {kws : List Keyword} {nm : Option Str} {kp : Pos} {fa : Env → R T} {fs : Env → R (List T)} (h : SE X m W e fa) (hr : SK X m W kws fs) : SK X m W (⟨nm, e, kp⟩ :: kws) (aCons fa fs) := by
  obtain ⟨tr, pr, r⟩ := hr
  exact ⟨tCons (tE X e) tr, pk_cons pe_tE pr, acons_run h r⟩
/-- by place and by name, as they lie -/
def tKn (sp : Sp) (π : List Nat) (n nk : Nat) (W : WX) (t tk : TA) : TE := fun σ H Q => t σ H fun vs H1 => tk σ H1 fun zs H2 => vs.length = n ∧ zs.length = nk ∧ sp (perm π (vs ++ zs)) H2 Q (WE W σ)
theorem pe_kn {k n : Nat} {π : List Nat} {f : Addr} {fd : FuncData} {ps ks : List Str} {sp : Sp} {x qual : Str} {st : Stmt} {p pos : Pos} {e : Expr} {es : List Expr} {kws : List Keyword} {t t2 : TA}
    (C : CallD X.prog X.w X.K X.mg X.base x qual st ps k sp f fd) (hr : Rm k X.A) (tk : Takes X W) (hg : Gl X x) (hb : KB X.K fd ps n ks π) (ha : PA X (e :: es) t) (hkw : PK X kws t2)
    (hall : (backToKw pos (keywordEach kws X.env)).all (·.1.isSome) = true) (hks : (backToKw pos (keywordEach kws X.env)).filterMap (·.1) = ks)
    (hdb : (x == ("__debug__" : Str)) = false) (he : starEach (e :: es) X.env = (false, eval e X.env) :: starEach es X.env)
    (hpl : ((backTo pos (starEach (e :: es) X.env)).any (·.1) || (backToKw pos (keywordEach kws X.env)).any (·.1.isNone)) = false) :
    PE X (.Call (.Name x p) (e :: es) kws pos) (tKn sp π n ks.length W t t2) := ⟨fun pins s σ H Q I h => by
  refine wpAny_Call_Name_kw (ld_glob I hg C.nm ?_ hdb)
  refine PySem.W.callWith_KW (h₀ := X.base) I.ok.mod.kin C.fn.kp hall (thn (ha.run pos pins s σ H _ I h) ?_) hpl he
  rintro us s1 ⟨vs, H1, I1, r, q⟩
  refine thn (hkw.run pos pins s1 σ H1 _ I1 q) ?_
  rintro ws s2 ⟨zs, H2, I2, rz, l1, l2, q2⟩
  refine ⟨I2.kIn, ?_⟩
  rw [hks]
  exact run_g (args := ⟨us, ks.zip ws⟩) C.ok hr tk I2 (hb s2 us ws I2.kIn (by rw [← r.length]; exact l1) (by rw [← rz.length]; exact l2)) (perm_vals (r.append rz) π) q2⟩
theorem pe_kn0 {k : Nat} {π : List Nat} {f : Addr} {fd : FuncData} {ps ks : List Str} {sp : Sp} {x qual : Str} {st : Stmt} {p pos : Pos} {kws : List Keyword} {t2 : TA}
    (C : CallD X.prog X.w X.K X.mg X.base x qual st ps k sp f fd) (hr : Rm k X.A) (tk : Takes X W) (hg : Gl X x) (hb : KB X.K fd ps 0 ks π) (hkw : PK X kws t2)
    (hall : (backToKw pos (keywordEach kws X.env)).all (·.1.isSome) = true) (hks : (backToKw pos (keywordEach kws X.env)).filterMap (·.1) = ks)
    (hdb : (x == ("__debug__" : Str)) = false) (hpl : (backToKw pos (keywordEach kws X.env)).any (·.1.isNone) = false) :
    PE X (.Call (.Name x p) [] kws pos) (tKn sp π 0 ks.length W tNil t2) := ⟨fun pins s σ H Q I h => by
  refine wpAny_Call_Name_kw (ld_glob I hg C.nm ?_ hdb)
  refine PySem.W.callWith_KW0 (h₀ := X.base) I.ok.mod.kin C.fn.kp hall (thn (hkw.run pos pins s σ H _ I h) ?_) hpl
  rintro ws s2 ⟨zs, H2, I2, rz, _, l2, q2⟩
  refine ⟨I2.kIn, ?_⟩
  rw [hks]
  exact run_g (args := ⟨[], ks.zip ws⟩) (us := perm π ([] ++ ws)) (vs := perm π ([] ++ zs)) C.ok hr tk I2 (hb s2 [] ws I2.kIn rfl (by rw [← rz.length]; exact l2)) (perm_vals (by simpa using rz) π) q2⟩
def callP (f : List D → RP) (ds : List D) (ρ : Env) : R T := match f ds with
  | .ok r => .ok r ρ
  | .ex x => .ex x ρ
  | .bad => .bad
def eCallK (n nk : Nat) (π : List Nat) (f : List D → RP) (fs fk : Env → R (List T)) : Env → R T := fun ρ => (fs ρ).bind fun ts ρ1 => (fk ρ1).bind fun us ρ2 => if ts.length = n ∧ us.length = nk then match shs ts, shs us with
  | some ds, some es => callP f (perm π (ds ++ es)) ρ2
  | _, _ => .bad
  else .bad
theorem callP_end {f : List D → RP} {ds : List D} {vs : List V} {F H : Hp} {Q : VK} (g : Good (gX X) fm ρ σ τ F H) (rs : Reps (gX X) F vs ds) (q : PostE X fm W σ τ (callP f ds ρ) Q) : SpP (gX X) f vs H Q (WE W σ) := by
  refine ⟨F, ds, g.FH, rs, ?_⟩
  unfold callP at q
  cases e2 : f ds with
  | ok r =>
    rw [e2] at q
    exact fun v F2 H2 gr rr => q v F2 H2 (g.res gr rr)
  | ex x =>
    rw [e2] at q
    exact fun cls d F2 H2 gr rx => q cls d F2 H2 (g.grow gr) rx
  | bad => rw [e2] at q; exact q
theorem pushAll_two {G : Cfg} {F H : Hp} {vs zs : List V} {ts us : List T} {ds es : List D} (hl : vs.length = ts.length) (hl2 : zs.length = us.length) (g : Good G fm ρ σ (pushAll zs us (pushAll vs ts τ)) F H) (e1 : shs ts = some ds) (e2 : shs us = some es) : Reps G F (vs ++ zs) (ds ++ es) :=
  (pushAll_shs hl (pushAll_pop _ _ _ g) e1).append (pushAll_shs hl2 g e2)
theorem kn_run {n nk : Nat} {π : List Nat} {f : List D → RP} {fs fk : Env → R (List T)} {t t2 : TA} (r : ∀ fm, Pins fm m → ∀ ρ σ τ F H Q, Good (gX X) fm ρ σ τ F H → PostA X fm W σ τ (fs ρ) Q → t σ H Q)
    (r2 : ∀ fm, Pins fm m → ∀ ρ σ τ F H Q, Good (gX X) fm ρ σ τ F H → PostA X fm W σ τ (fk ρ) Q → t2 σ H Q) (hm : Pins fm m) {F H : Hp} {Q : VK} (g : Good (gX X) fm ρ σ τ F H) (q : PostE X fm W σ τ (eCallK n nk π f fs fk ρ) Q) : tKn (SpP (gX X) f) π n nk W t t2 σ H Q := by
  refine r fm hm ρ σ τ F H _ g ?_
  unfold eCallK at q
  cases e1 : fs ρ with
  | ex x ρ1 => rw [e1] at q; exact q
  | bad => rw [e1] at q; exact q
  | ok ts ρ1 =>
    rw [e1] at q
    intro vs F1 H1 l1 g1
    refine r2 fm hm ρ1 σ _ F1 H1 _ g1 ?_
    have q : PostE X fm W σ τ ((fk ρ1).bind fun us ρ2 => if ts.length = n ∧ us.length = nk then match shs ts, shs us with
      | some ds, some es => callP f (perm π (ds ++ es)) ρ2
      | _, _ => .bad
      else .bad) Q := q
    cases e2 : fk ρ1 with
    | ex x ρ2 => rw [e2] at q; exact fun cls d F' H' g' rx => q cls d F' H' (pushAll_pop _ _ _ g') rx
    | bad => rw [e2] at q; exact q
    | ok us ρ2 =>
      rw [e2] at q
      intro zs F2 H2 l2 g2
      change PostE X fm W σ τ (if ts.length = n ∧ us.length = nk then match shs ts, shs us with
        | some ds, some es => callP f (perm π (ds ++ es)) ρ2
        | _, _ => .bad
        else .bad) Q at q
      split at q
      · rename_i hn
        refine ⟨l1.trans hn.1, l2.trans hn.2, ?_⟩
        split at q
        · rename_i ds es e3 e4
          exact callP_end (pushAll_pop _ _ _ (pushAll_pop _ _ _ g2)) (perm_reps (pushAll_two l1 l2 g2 e3 e4) π) q
        · exact q.elim
      · exact q.elim
theorem sa0_run : ∀ fm, Pins fm m → ∀ ρ σ τ F H Q, Good (gX X) fm ρ σ τ F H → PostA X fm W σ τ (aNil ρ) Q → tNil σ H Q := fun fm hm ρ σ τ F H Q g q => q [] F H rfl g
theorem se_callK {n : Nat} {π : List Nat} {ks : List Str} {x qual : Str} {st : Stmt} {ps : List Str} {k j : Nat} {f : List D → RP} {e : Expr} {es : List Expr} {kws : List Keyword} {fs fk : Env → R (List T)} {p pos : Pos} (C : CalleeX X x qual st ps k (SpP (gX X) f)) (hb : ∀ fa fd, L2.Fun X.K x qual st fa fd → KB X.K fd ps n ks π) (hr : Rm j X.A) (tk : Takes X W) (ha : SA X m W (e :: es) fs) (hkw : SK X m W kws fk) (hk : k ≤ j := by decide) (hg : Gl X x := by rfl)
    (hall : (backToKw pos (keywordEach kws X.env)).all (·.1.isSome) = true := by rfl) (hks : (backToKw pos (keywordEach kws X.env)).filterMap (·.1) = ks := by rfl)
    (hdb : (x == ("__debug__" : Str)) = false := by decide) (he : starEach (e :: es) X.env = (false, eval e X.env) :: starEach es X.env := by rfl) (hpl : ((backTo pos (starEach (e :: es) X.env)).any (·.1) || (backToKw pos (keywordEach kws X.env)).any (·.1.isNone)) = false := by rfl) :
    SE X m W (.Call (.Name x p) (e :: es) kws pos) (eCallK n ks.length π f fs fk) := fun fm hm ρ σ τ F H Q g q => by
  obtain ⟨fa, fd, C⟩ := C
  obtain ⟨t, pa, r⟩ := ha
  obtain ⟨t2, pk, r2⟩ := hkw
  exact tE_of (pe_kn C (hr.mono hk) tk hg (hb fa fd C.fn) pa pk hall hks hdb he hpl) (kn_run r r2 hm g q)
theorem se_callK0 {π : List Nat} {ks : List Str} {x qual : Str} {st : Stmt} {ps : List Str} {k j : Nat} {f : List D → RP} {kws : List Keyword} {fk : Env → R (List T)} {p pos : Pos} (C : CalleeX X x qual st ps k (SpP (gX X) f)) (hb : ∀ fa fd, L2.Fun X.K x qual st fa fd → KB X.K fd ps 0 ks π) (hr : Rm j X.A) (tk : Takes X W) (hkw : SK X m W kws fk) (hk : k ≤ j := by decide) (hg : Gl X x := by rfl)
    (hall : (backToKw pos (keywordEach kws X.env)).all (·.1.isSome) = true := by rfl) (hks : (backToKw pos (keywordEach kws X.env)).filterMap (·.1) = ks := by rfl)
    (hdb : (x == ("__debug__" : Str)) = false := by decide) (hpl : (backToKw pos (keywordEach kws X.env)).any (·.1.isNone) = false := by rfl) :
    SE X m W (.Call (.Name x p) [] kws pos) (eCallK 0 ks.length π f aNil fk) := fun fm hm ρ σ τ F H Q g q => by
  obtain ⟨fa, fd, C⟩ := C
  obtain ⟨t2, pk, r2⟩ := hkw
  exact tE_of (pe_kn0 C (hr.mono hk) tk hg (hb fa fd C.fn) pk hall hks hdb hpl) (kn_run (fs := aNil) (t := tNil) sa0_run r2 hm g q)
/-- f() -/
theorem se_call0 {x qual : Str} {st : Stmt} {k j : Nat} {f : List D → RP} {p pos : Pos} (C : CalleeX X x qual st [] k (SpP (gX X) f)) (hr : Rm j X.A) (tk : Takes X W) (hk : k ≤ j := by decide) (hg : Gl X x := by rfl)
    (hdb : (x == ("__debug__" : Str)) = false := by decide) : SE X m W (.Call (.Name x p) [] [] pos) (fun ρ => callP f [] ρ) := fun fm hm ρ σ τ F H Q g q => by
  obtain ⟨fa, fd, C⟩ := C
  exact tE_of (pe_g0 C (hr.mono hk) tk hg hdb) (callP_end g .nil q)

/-! ### dict displays of constants -/
structure KC (X : Cx) (k v : Expr) (key : Key) (d : D) : Prop where
  hk : PE X k (tC (kV key))
  hv : ∃ x, PE X v (tC x) ∧ ∀ F, Rep (gX X) F x d
theorem kc_of {k v : Expr} {key : Key} {x : V} {d : D} (h : PE X k (tC (kV key))) (h2 : PE X v (tC x)) (h3 : ∀ F, Rep (gX X) F x d) : KC X k v key d := ⟨h, x, h2, h3⟩
def KCs (X : Cx) (pos : Pos) (keys : List (Option Expr)) (values : List Expr) (kvs : List (Key × D)) : Prop :=
  ∃ (trs : List (TE × TE)) (xs : List (Key × V)), PPs X pos keys values trs ∧ (∀ σ H (Q : List (V × V) → Hp → Prop), Q (xs.map fun kv => (kV kv.1, kv.2)) H → tPairs trs σ H Q) ∧ xs.map (·.1) = kvs.map (·.1) ∧ ∀ F, Reps (gX X) F (xs.map (·.2)) (kvs.map (·.2))
theorem kcs_nil {pos : Pos} : KCs X pos [] [] [] := ⟨[], [], pps_nil, fun _ _ _ q => q, rfl, fun _ => .nil⟩
theorem kcs_cons {pos : Pos} {k v : Expr} {key : Key} {d : D} {keys : List (Option Expr)} {values : List Expr} {kvs : List (Key × D)} (h : KC X k v key d) (hr : KCs X pos keys values kvs) : KCs X pos (some k :: keys) (v :: values) ((key, d) :: kvs) := by
  obtain ⟨trs, xs, a, b, c, dd⟩ := hr
  obtain ⟨x, hv, hx⟩ := h.hv
  refine ⟨_, (key, x) :: xs, pps_cons h.hk hv a, fun σ H Q q => ?_, by simp [c], fun F => .cons (hx F) (dd F)⟩
  exact b σ H _ q
theorem any_fst {α β : Type} {k : Key} : ∀ {xs : List (Key × α)} {ys : List (Key × β)}, xs.map (·.1) = ys.map (·.1) → (xs.any fun kv => decide (kv.1 = k)) = (ys.any fun kv => decide (kv.1 = k))
  | [], [], _ => rfl
  | [], _ :: _, h => by simp at h
  | _ :: _, [], h => by simp at h
  | x :: xs, y :: ys, h => by
    simp only [List.map_cons, List.cons.injEq] at h
    simp only [List.any_cons, h.1, any_fst h.2]
theorem rep_swap {G : Cfg} {F : Hp} {k : Key} {x : V} {d : D} (r : Rep G F x d) : ∀ {xs : List (Key × V)} {ys : List (Key × D)}, xs.map (·.1) = ys.map (·.1) → Reps G F (xs.map (·.2)) (ys.map (·.2)) →
    ((xs.map fun kv => if kv.1 = k then (kv.1, x) else kv).map (·.1) = (ys.map fun kv => if kv.1 = k then (kv.1, d) else kv).map (·.1)) ∧ Reps G F ((xs.map fun kv => if kv.1 = k then (kv.1, x) else kv).map (·.2)) ((ys.map fun kv => if kv.1 = k then (kv.1, d) else kv).map (·.2))
  | [], [], _, _ => ⟨rfl, .nil⟩
  | [], _ :: _, h, _ => by simp at h
  | _ :: _, [], h, _ => by simp at h
  | p :: xs, q :: ys, h, rs => by
    simp only [List.map_cons, List.cons.injEq] at h
    cases rs with
    | cons r1 rs =>
      obtain ⟨a, b⟩ := rep_swap (k := k) r h.2 rs
      by_cases hk : p.1 = k
      · have hq : q.1 = k := h.1 ▸ hk
        refine ⟨?_, ?_⟩
        · simp only [List.map_cons, if_pos hk, if_pos hq, a, h.1]
        · simp only [List.map_cons, if_pos hk, if_pos hq]; exact .cons r b
      · have hq : ¬ q.1 = k := h.1 ▸ hk
        refine ⟨?_, ?_⟩
        · simp only [List.map_cons, if_neg hk, if_neg hq, a, h.1]
        · simp only [List.map_cons, if_neg hk, if_neg hq]; exact .cons r1 b
def putD (kvs : List (Key × D)) (k : Key) (v : D) : List (Key × D) :=
  if (kvs.any fun kv => decide (kv.1 = k)) = true then kvs.map (fun kv => if kv.1 = k then (kv.1, v) else kv) else kvs ++ [(k, v)]
theorem rep_put {G : Cfg} {F : Hp} {k : Key} {x : V} {d : D} {xs : List (Key × V)} {ys : List (Key × D)} (r : Rep G F x d) (h : xs.map (·.1) = ys.map (·.1)) (rs : Reps G F (xs.map (·.2)) (ys.map (·.2))) :
    (putK xs k x).map (·.1) = (putD ys k d).map (·.1) ∧ Reps G F ((putK xs k x).map (·.2)) ((putD ys k d).map (·.2)) := by
  unfold putK putD
  rw [any_fst h]
  split
  · exact rep_swap r h rs
  · refine ⟨by simp [h], ?_⟩
    rw [List.map_append, List.map_append]
    exact rs.append (.cons r .nil)
def mergeD (kvs more : List (Key × D)) : List (Key × D) := more.foldl (fun acc kv => putD acc kv.1 kv.2) kvs
theorem rep_merge {G : Cfg} {F : Hp} : ∀ {ms : List (Key × V)} {ns : List (Key × D)} {xs : List (Key × V)} {ys : List (Key × D)}, ms.map (·.1) = ns.map (·.1) → Reps G F (ms.map (·.2)) (ns.map (·.2)) → xs.map (·.1) = ys.map (·.1) → Reps G F (xs.map (·.2)) (ys.map (·.2)) →
    (mergeK xs ms).map (·.1) = (mergeD ys ns).map (·.1) ∧ Reps G F ((mergeK xs ms).map (·.2)) ((mergeD ys ns).map (·.2))
  | [], [], _, _, _, _, h, r => ⟨h, r⟩
  | [], _ :: _, _, _, h, _, _, _ => by simp at h
  | _ :: _, [], _, _, h, _, _, _ => by simp at h
  | p :: ms, q :: ns, xs, ys, h, rs, h2, r2 => by
    simp only [List.map_cons, List.cons.injEq] at h
    cases rs with
    | cons r1 rs =>
      obtain ⟨a, b⟩ := rep_put (k := p.1) r1 h2 r2
      have := rep_merge (xs := putK xs p.1 p.2) (ys := putD ys p.1 q.2) h.2 rs a b
      unfold mergeK mergeD at this ⊢
      rw [List.foldl_cons, List.foldl_cons, ← h.1]
      exact this
def eDict (kvs : List (Key × D)) : Env → R T := fun ρ => .ok (.sh (.dk (mergeD [] kvs))) ρ
theorem se_dict0 {pos : Pos} : SE X m W (.Dict [] [] pos) (eDict []) := fun fm hm ρ σ τ F H Q g q => by
  refine tE_of pe_dnewK fun p hp => ?_
  have k := Grow.new (o := HO.dK []) g.FH hp
  exact q _ _ _ ((g.grow k).pushSh (.dk (kvs := []) upd_same rfl .nil))
theorem se_dict {pos : Pos} {keys : List (Option Expr)} {values : List Expr} {kvs : List (Key × D)} (h : KCs X pos keys values kvs) (hall : keys.all (·.isSome) = true := by rfl) (hl : keys.length = values.length := by rfl) (h0 : keys ≠ [] := by simp) (h15 : keys.length ≤ 15 := by decide) (hkl : kvs.length ≤ 15 := by decide) :
    SE X m W (.Dict keys values pos) (eDict kvs) := fun fm hm ρ σ τ F H Q g q => by
  obtain ⟨trs, xs, a, b, c, dd⟩ := h
  refine tE_of (pe_disp a hall hl h0 h15) fun p hp => ?_
  refine b σ _ _ ⟨upd_same, xs, rfl, ?_, ?_⟩
  · have : xs.length = kvs.length := by simpa using congrArg List.length c
    omega
  · rw [upd_upd]
    have k := Grow.new (o := HO.dK (mergeK [] xs)) g.FH hp
    have rm := rep_merge (xs := []) (ys := []) c (dd F) rfl .nil
    exact q _ _ _ ((g.grow k).pushSh (.dk upd_same rm.1 (rm.2.mono k.FF)))

/-! ### a op b op c -/
theorem se_chain {r r' : R2} {op op' : CmpOp} {g g' : D → D → Option Bool} {a b c : Expr} {fa fb fc : Env → R T} {pos : Pos} (ho : OpR X (compareOp op) r) (ho' : OpR X (compareOp op') r') (hs : Op2 (gX X) r (asBl g)) (hs' : Op2 (gX X) r' (asBl g'))
    (ha : SE X m W a fa) (hb : SE X m W b fb) (hc : SE X m W c fc) (hmk : lastMarks [op, op'] [b, c] = false := by with_unfolding_all rfl) : True := trivial
end
end Pf

namespace Pf
open PySem PySem.Spec L2
open PyProof.Rows (IntsAre AllBare)

/-! ### the end of a law -/
section
variable {P : Program} {w : World} {K : PySem.W.Frag} {mg mb : Str → Option Value} {a : Addr} {s1 : Shared} {us : List Value} {ns : List Int}
/-- the script's object -/
abbrev scO (us : List Value) : Obj := { cls := .type "list", data := .seq us.toArray }
/-- the abstract heap: the script alone, unless the module holds it -/
def scH (K : PySem.W.Frag) (a : Addr) (us : List Value) (ns : List Int) : Hp := fun b => if b = a ∧ K.lookup a = none then some (.frz (scO us) (.lst (ns.map V.int))) else none
theorem scH_some {b : Addr} {u : HO} (e : scH K a us ns b = some u) : b = a ∧ K.lookup a = none ∧ u = .frz (scO us) (.lst (ns.map V.int)) := by
  unfold scH at e
  split at e
  · rename_i h; cases e; exact ⟨h.1, h.2, rfl⟩
  · cases e
theorem scH_none {b : Addr} (h : ¬ (b = a ∧ K.lookup a = none)) : scH K a us ns b = none := if_neg h
theorem law_g {k : Nat} {fa : Addr} {fd : FuncData} {x : Str} {sp : Sp} (kin : K.In s1.heap) (top : s1.heap.Ns mainGlobals mg) (bt : s1.heap.Ns builtinsNs mb) (bt2 : ∀ x : Str, x ≠ "__name__" → mb x = bootBuiltins x) (lim : s1.heap.NoLimit) (gen : s1.gens = #[])
    (sc : s1.heap.get? a = some (scO us)) (it : IntsAre us ns) (few : ns.length ≤ sizeLine) (room : Rm k callerA)
    (run : ∀ base : Heap, K.In base → base.Ns mainGlobals mg → FnG P w K mg base k fa fd [x] sp) (bind : ∀ (s : Shared) (u : Value), BindsTo s fd ⟨[u], []⟩ [(x, u)])
    (goal : ∀ H : Hp, SqL K H a (ns.map V.int) → sp [.ref a] H (fun v _ => v = .bl true) fun _ _ _ => False) :
    codeAny (model P w) callerA (.call (.ref fa) ⟨[.ref a], []⟩) (fun r s' => r = .ok (.ret (.bool true)) ∧ OldK s1.heap s'.heap ∧ s'.os = s1.os ∧ AllBare s'.gens) s1 := by
  have vl := vals_ints it
  -- the heap without the script still holds what the module asks
  have low : ∀ {b : Addr} {o : Obj}, s1.heap.get? b = some o → (b = a → K.lookup a ≠ none) → (hidT s1.heap (scH K a us ns)).get? b = some o := fun e n => hidT_get e (scH_none fun h => n h.1 h.2)
  have lowNs : ∀ {b : Addr} {q : Str → Option Value}, s1.heap.Ns b q → (hidT s1.heap (scH K a us ns)).Ns b q := by
    rintro b q ⟨o, es, ep, e, d, r⟩
    refine ⟨o, es, ep, hidT_get e (scH_none fun h => ?_), d, r⟩
    rw [h.1, sc] at e
    cases e
    exact (nomatch (show Data.seq us.toArray _ = Data.dict es ep from d))
  have lowK : K.In (hidT s1.heap (scH K a us ns)) := fun b o e => low (kin b o e) fun z n => by rw [z, n] at e; cases e
  have ok : HOk P w (scH K a us ns) s1.heap := fun b u e => by
    obtain ⟨rfl, _, rfl⟩ := scH_some e
    exact ⟨sc, by rw [List.length_map]; exact few, us, _, vl, sc⟩
  have sq : SqL K (scH K a us ns) a (ns.map V.int) := by
    cases e : K.lookup a with
    | none => exact .inl (.inr ⟨scO us, if_pos ⟨rfl, e⟩⟩)
    | some o =>
      have e2 := kin a o e
      rw [sc] at e2
      cases e2
      exact .inr ⟨_, us.toArray, _, e, rfl, rfl, rfl, by rw [List.size_toArray, it.length]; exact few, by simpa using vl⟩
  obtain ⟨mc, l1, l2⟩ := lim
  have env : Env0 P w K mg (hidT s1.heap (scH K a us ns)) callerA [] s1 (scH K a us ns) :=
    ⟨rfl, ⟨lowK, lowNs top, ⟨mb, lowNs bt, bt2⟩, ⟨mc, lowNs l1, l2⟩⟩, fun b o e => of_hidT e, Nat.le_of_eq (hidT_size _ _), trivial, fun b hb => absurd (show b ∈ ([] : List Addr) from hb) List.not_mem_nil, ok, .of_eq gen⟩
  have go := (run _ lowK (lowNs top)).run callerA [] s1 _ ⟨[.ref a], []⟩ [.ref a] [.ref a] _ _ room env (bind s1 (.ref a)) (.cons rfl .nil) (goal _ sq)
  refine codeAny_mono go fun r s2 h => ?_
  match r, h with
  | .error e, ⟨_, _, _, _, _, _, _, _, _, _, _, _, z⟩ => exact False.elim z
  | .ok .next, h => exact False.elim h
  | .ok .brk, h => exact False.elim h
  | .ok .cont, h => exact False.elim h
  | .ok (.ret u), ⟨v, H2, os, bare, un, ok2, rv, q⟩ =>
    cases (show v = .bl true from q)
    cases (show u = Value.bool true from rv)
    refine ⟨rfl, .of_keep fun b o e => ?_, os, bare⟩
    cases q2 : scH K a us ns b with
    | none => exact un.keep b o e q2 (fun z => List.not_mem_nil (show b ∈ ([] : List Addr) from z)) (by simp)
    | some y =>
      obtain ⟨rfl, hn, rfl⟩ := scH_some q2
      have := (ok2 b _ (un.frzs b _ _ q2)).1
      rw [sc] at e
      cases e
      exact this
end
end Pf

namespace Pf
open PySem PySem.Spec L2

theorem takes_wf {X : Cx} : Takes X WF := fun u s' ⟨a, B, sI, pins, σ, H, cls, d, e, I, nb, up, sky, na, os, ag, z⟩ => False.elim z
theorem vainP {G : Cfg} {vs : List V} {H : Hp} {Q : VK} {E : XK} (h : SpP G (fun _ => .bad) vs H Q E) : False := by
  obtain ⟨_, _, _, _, z⟩ := h
  exact z
theorem vainM {G : Cfg} {vs : List V} {H : Hp} {Q : VK} {E : XK} (h : SpM G (fun _ _ => .bad) vs H Q E) : False := by
  obtain ⟨_, _, _, _, _, _, _, _, _, _, _, _, z⟩ := h
  exact z
section
variable {P : Program} {w : World} {K : PySem.W.Frag} {mg : Str → Option Value} {base : Heap}
theorem FnG.vain {k : Nat} {f : Addr} {fd : FuncData} {ps : List Str} {sp : Sp} (h : ∀ vs H Q E, sp vs H Q E → False) : FnG P w K mg base k f fd ps sp :=
  ⟨fun vs H Q E z => (h vs H Q E z).elim, fun _ _ _ H _ _ vs Q E _ _ _ _ z => (h vs H Q E z).elim⟩
theorem kb_of {x qual : Str} {st : Stmt} {f : Addr} {fd : FuncData} {ps ks : List Str} {n : Nat} {π : List Nat} (Fn : L2.Fun K x qual st f fd)
    (h : ∀ (kV doc pm : Value) (an : Option Addr) (cdv ct : Value) (us ws : List Value), us.length = n → ws.length = ks.length → bindArgs (PySem.W.fnOf x qual (defArgs st) (defBody st) (defScope st) .none kV doc pm an cdv ct) ⟨us, ks.zip ws⟩ = pure (ps.zip (perm π (us ++ ws)))) : KB K fd ps n ks π := by
  obtain ⟨oc, od, kV, doc, pm, an, cdv, ct, osl, rfl, _⟩ := Fn.ex
  exact fun s us ws _ h1 h2 => .of_eq (h kV doc pm an cdv ct us ws h1 h2)
/-- the row's walk, from the law's promise and what it computes -/
theorem walk_g {l : PySem.W.OpenLaw} {n k : Nat} {q : Program} {loose : List Str} {XP : (Str → Option Value) → Heap → Prop} {YP : World → Heap → Prop} {d : PySem.DefRec} {K : Params → PySem.W.Frag} {x : Str} {f : List D → RP}
    (hn : l.most = some n) (hn2 : n ≤ sizeLine) (hdf : d.params.defaults = []) (hr : Rm k callerA)
    (hY : ∀ (w : World) (h : Heap), YP w h → (K w.params).In h)
    (F : ∀ (w : World) (mg : Str → Option Value) (fa : Addr) (h : Heap), (K w.params).In h → h.Ns mainGlobals mg → mg d.name = some (.ref fa) →
      ∃ fd : FuncData, (∀ (s : Shared) (u : Value), BindsTo s fd ⟨[u], []⟩ [(x, u)]) ∧ ∀ base : Heap, (K w.params).In base → base.Ns mainGlobals mg → FnG l.prog w (K w.params) mg base k fa fd [x] (SpP ⟨K w.params, mg⟩ f))
    (plain : ∀ ns : List Int, ns.length ≤ n → (∀ z ∈ ns, Builtin.Int.intBits z ≤ 1048576) → f [.rol (ns.map D.int)] = .ok (.sh (.bl true))) :
    PySem.W.WalkO q loose XP YP l.row.toRowW d [] (fun f vs => PySem.call f vs) := by
  refine Att.attach_callB hn hdf fun w s0 s1 mg mb fa o pm cd doc a us ns G Y ho hd hcd hmg hobj it few bits gen => ?_
  have kin := hY w _ Y
  obtain ⟨fd, hb, hF⟩ := F w mg fa _ kin G.T.g hmg
  refine law_g kin G.T.g G.T.b G.T.builtins G.T.nolimit gen hobj it (Nat.le_trans few hn2) hr hF hb fun H sq => ?_
  have allI : ∀ ns : List Int, Reps ⟨K w.params, mg⟩ H (ns.map V.int) (ns.map D.int) := fun ns => by
    induction ns with
    | nil => exact .nil
    | cons i ns ih => exact .cons .int ih
  refine ⟨H, [.rol (ns.map D.int)], Same.refl H, .cons (.rol sq (allI ns)) .nil, ?_⟩
  rw [plain ns few bits]
  intro v F' H' _ r
  have r : Rep _ F' v (.bl true) := r
  cases r
  rfl
/-- a body's context -/
abbrev bX (P : Program) (w : World) (K : PySem.W.Frag) (mg : Str → Option Value) (base : Heap) (N : List Str) (qual : Str) (st : Stmt) (f : Addr) (cdv : Value) (A : Around) (outer : List PySem.Env) (s : Shared) (H : Hp) (E : XK) : Cx := cxOf (L2.CX P w) P w K mg base N qual (defScope st) f cdv A outer s H E
theorem cok_b {N ps : List Str} {qual : Str} {st : Stmt} {f : Addr} {cdv : Value} {A : Around} {outer : List PySem.Env} {s : Shared} {H : Hp} {E : XK} (S : FnScope N ps (defScope st)) : Cok (bX P w K mg base N qual st f cdv A outer s H E) := ⟨rfl, passes_of rfl, S.nd⟩
theorem takes_b {N : List Str} {qual : Str} {st : Stmt} {f : Addr} {cdv : Value} {A : Around} {outer : List PySem.Env} {s : Shared} {H : Hp} {E : XK} : Takes (bX P w K mg base N qual st f cdv A outer s H E) (fun cls d _ H' => E cls d H') := takes_of rfl rfl rfl rfl
end
/-- a block's names, checked -/
def blkB (N : List Str) (sc scope : Scope) (own : List (Str × Nat)) : Bool :=
  (scope.kind == .function) && scope.names.all (fun y => decide (scope.names.lookup y.1 = some y.2)) && own.all (fun p => decide (N[p.2]? = some p.1)) &&
    scope.names.all (fun y => !decide (y.2 = .free) || (decide (sc.names.lookup y.1 = some .cell) || decide (sc.names.lookup y.1 = some .free))) &&
    scope.names.all (fun y => !(decide (y.2 = .local) || decide (y.2 = .cell)) || (decide (y.1 ∈ own.map (·.1)) || !decide (y.1 ∈ N)))
theorem blk_of {N : List Str} {sc scope : Scope} {own : List (Str × Nat)} (h : blkB N sc scope own = true) (hk : scope.kind = .function := by rfl) : BlkOk N sc scope own := by
  unfold blkB at h
  simp only [Bool.and_eq_true, List.all_eq_true, Bool.or_eq_true, decide_eq_true_eq, Bool.not_eq_true', decide_eq_false_iff_not, Bool.or_eq_false_iff] at h
  obtain ⟨⟨⟨⟨_, h2⟩, h3⟩, h4⟩, h5⟩ := h
  refine ⟨hk, h2, h3, fun y hy e => ?_, fun y hy e => ?_⟩
  · rcases h4 y hy with z | z
    · exact absurd e z
    · exact z
  · rcases h5 y hy with z | z
    · rcases e with e | e
      · exact absurd e z.1
      · exact absurd e z.2
    · exact z
section
variable {P : Program} {w : World} {K : PySem.W.Frag} {mg : Str → Option Value} {base : Heap}
open PyProof.Rows (envOfC)
theorem okPn {x qual : Str} {st : Stmt} {f : Addr} {fd : FuncData} {N ps : List Str} {k np n : Nat} {g : Env → RS} (Fn : L2.Fun K x qual st f fd) (S : FnScope N ps (defScope st)) (e1 : ps.length = np) (e2 : N.length = n)
    (hb : ∀ (cdv : Value) (A : Around) (outer : List PySem.Env) (s : Shared) (H : Hp) (E : XK), Rm k (A.deeper (envOfC qual (defScope st) s.heap.objs.size f cdv)) →
      SSs (bX P w K mg base N qual st f cdv A outer s H E) [] (fun cls d _ H' => E cls d H') (defBody st) g) : FnG P w K mg base (k + 1) f fd ps (SpP ⟨K, mg⟩ (denP np n g)) := by
  subst e1 e2
  exact okP Fn S hb
theorem okMn {x qual : Str} {st : Stmt} {f : Addr} {fd : FuncData} {N ps : List Str} {k np n : Nat} {g : Env → RS} (Fn : L2.Fun K x qual st f fd) (S : FnScope N ps (defScope st)) (e1 : ps.length = np) (e2 : N.length = n)
    (hb : ∀ (cdv : Value) (A : Around) (outer : List PySem.Env) (s : Shared) (H : Hp) (E : XK), Rm k (A.deeper (envOfC qual (defScope st) s.heap.objs.size f cdv)) →
      SSs (bX P w K mg base N qual st f cdv A outer s H E) [0] (fun cls d _ H' => E cls d H') (defBody st) g) : FnG P w K mg base (k + 1) f fd ps (SpM ⟨K, mg⟩ (denM np n g)) := by
  subst e1 e2
  exact okM Fn S hb
end
end Pf

namespace Pf
open PySem PySem.Spec L2
/-! ### one step of what is computed, for rewriting -/
section
variable {α β : Type} {ρ : Env} {i : Nat} {m : List Nat} {d : D} {xs ds ds0 ds1 : List D} {t : T} {ts : List T}
theorem q_bind {a : α} {k : α → Env → R β} : R.bind (.ok a ρ) k = k a ρ := rfl
theorem q_bindx {e : Exn} {k : α → Env → R β} : R.bind (.ex e ρ) k = .ex e ρ := rfl
theorem q_s {a : α} {k : α → Env → RS} : R.s (.ok a ρ) k = k a ρ := rfl
theorem q_sx {e : Exn} {k : α → Env → RS} : R.s (.ex e ρ) k = .ex e ρ := rfl
theorem q_nx {k : Env → RS} : RS.bind (.nx ρ) k = k ρ := rfl
theorem q_rt {k : Env → RS} : RS.bind (.rt t ρ) k = .rt t ρ := rfl
theorem q_bk {k : Env → RS} : RS.bind (.bk ρ) k = .bk ρ := rfl
theorem q_ct {k : Env → RS} : RS.bind (.ct ρ) k = .ct ρ := rfl
theorem q_ex {e : Exn} {k : Env → RS} : RS.bind (.ex e ρ) k = .ex e ρ := rfl
theorem q_seq {g h : Env → RS} : sSeq g h ρ = (g ρ).bind h := rfl
theorem q_nil : sNil ρ = .nx ρ := rfl
theorem q_if {c : Env → R Bool} {g h : Env → RS} : sIf c g h ρ = (c ρ).s fun b ρ1 => if b = true then g ρ1 else h ρ1 := rfl
theorem q_expr {fa : Env → R T} : sExpr fa ρ = (fa ρ).s fun _ ρ1 => .nx ρ1 := rfl
theorem q_set {fa : Env → R T} : sSet m i fa ρ = (fa ρ).s fun t ρ1 => put m i t ρ1 := rfl
theorem q_put : put m i (.sh d) ρ = .nx (ρ.set i (some (.sh d))) := rfl
theorem q_puto : put m i (.own ds) ρ = .nx (ρ.set i (some (.own ds))) := rfl
def lookP (m : List Nat) (i j : Nat) (ρ : Env) : Option (Option T) → RS
  | some (some (.sh d)) => .nx (ρ.set i (some (.sh d)))
  | some (some (.own ds)) => if j ∈ m then .bad else .nx ((ρ.set j (some (.sh (.lst ds)))).set i (some (.sh (.lst ds))))
  | _ => .bad
theorem q_puta {j : Nat} : put m i (.al j) ρ = lookP m i j ρ ρ[j]? := by
  show (match frz m ρ (.al j) with
    | some (d, ρ1) => RS.nx (ρ1.set i (some (.sh d)))
    | none => .bad) = _
  unfold frz lookP
  dsimp only
  generalize ρ[j]? = o
  cases o with
  | none => rfl
  | some o =>
    cases o with
    | none => rfl
    | some t =>
      cases t with
      | sh d => rfl
      | own ds => dsimp only; by_cases hj : j ∈ m <;> simp only [hj, if_true, if_false]
      | al k => rfl
theorem q_lookPs {j : Nat} : lookP m i j ρ (some (some (.sh d))) = .nx (ρ.set i (some (.sh d))) := rfl
theorem q_lookPo {j : Nat} : lookP m i j ρ (some (some (.own ds))) = if j ∈ m then .bad else .nx ((ρ.set j (some (.sh (.lst ds)))).set i (some (.sh (.lst ds)))) := rfl
theorem q_ret0 {fa : Env → R T} : sRet m fa ρ = (fa ρ).s fun t ρ1 => ret m t ρ1 := rfl
theorem q_ret : ret m (.sh d) ρ = .rt (.sh d) ρ := rfl
theorem q_reto : ret m (.own ds) ρ = .rt (.own ds) ρ := rfl
def lookR (m : List Nat) (j : Nat) (ρ : Env) : Option (Option T) → RS
  | some (some (.sh d)) => .rt (.sh d) ρ
  | some (some (.own ds)) => if j ∈ m then .bad else .rt (.own ds) (ρ.set j none)
  | _ => .bad
theorem q_reta {j : Nat} : ret m (.al j) ρ = lookR m j ρ ρ[j]? := rfl
theorem q_lookRs {j : Nat} : lookR m j ρ (some (some (.sh d))) = .rt (.sh d) ρ := rfl
theorem q_lookRo {j : Nat} : lookR m j ρ (some (some (.own ds))) = if j ∈ m then .bad else .rt (.own ds) (ρ.set j none) := rfl
theorem q_c : eC d ρ = .ok (.sh d) ρ := rfl
def lookV (i : Nat) (ρ : Env) : Option (Option T) → R T
  | some (some (.sh d)) => .ok (.sh d) ρ
  | some (some (.own _)) => .ok (.al i) ρ
  | _ => .bad
theorem q_v : eV i ρ = lookV i ρ ρ[i]? := rfl
theorem q_lookVs : lookV i ρ (some (some (.sh d))) = .ok (.sh d) ρ := rfl
theorem q_lookVo : lookV i ρ (some (some (.own ds))) = .ok (.al i) ρ := rfl
theorem q_view : view ρ (.sh d) = some d := rfl
theorem q_viewo : view ρ (.own ds) = some (.lst ds) := rfl
theorem q_viewa : view ρ (.al i) = slotD ρ[i]? := rfl
theorem q_slots : slotD (some (some (.sh d))) = some d := rfl
theorem q_sloto : slotD (some (some (.own ds))) = some (.lst ds) := rfl
theorem q_opt {b : β} : opt (some b) ρ = .ok b ρ := rfl
theorem q_e1 {op : D → Option T} {fa : Env → R T} : e1 op fa ρ = (fa ρ).bind fun ta ρ1 => opt ((view ρ1 ta).bind op) ρ1 := rfl
theorem q_e2 {op : D → D → Option T} {fa fb : Env → R T} : e2 op fa fb ρ = (fa ρ).bind fun ta ρ1 => (fb ρ1).bind fun tb ρ2 => opt ((view ρ2 ta).bind fun a => (view ρ2 tb).bind fun b => op a b) ρ2 := rfl
theorem q_eN {op : List D → Option T} {fs : Env → R (List T)} : eN op fs ρ = (fs ρ).bind fun ts ρ1 => opt ((views ρ1 ts).bind op) ρ1 := rfl
theorem q_an : aNil ρ = .ok [] ρ := rfl
theorem q_ac {fa : Env → R T} {fs : Env → R (List T)} : aCons fa fs ρ = (fa ρ).bind fun t ρ1 => (fs ρ1).bind fun ts ρ2 => .ok (t :: ts) ρ2 := rfl
theorem q_views0 : views ρ [] = some [] := rfl
theorem q_views : views ρ (t :: ts) = (view ρ t).bind fun d => (views ρ ts).map (d :: ·) := by
  show (match view ρ t, views ρ ts with
    | some d, some ds => some (d :: ds)
    | _, _ => none) = _
  cases view ρ t with
  | none => rfl
  | some d => cases views ρ ts <;> rfl
theorem q_shs0 : shs [] = some [] := rfl
theorem q_shs : shs (.sh d :: ts) = (shs ts).map (d :: ·) := rfl
def frzK (m : List Nat) (t : T) (ρ : Env) : R T := match frz m ρ t with
  | some (d, ρ2) => .ok (.sh d) ρ2
  | none => .bad
theorem q_f {fa : Env → R T} : eF m fa ρ = (fa ρ).bind fun t ρ1 => frzK m t ρ1 := rfl
theorem q_frz : frzK m (.sh d) ρ = .ok (.sh d) ρ := rfl
theorem q_frzo : frzK m (.own ds) ρ = .ok (.sh (.lst ds)) ρ := rfl
def lookF (m : List Nat) (j : Nat) (ρ : Env) : Option (Option T) → R T
  | some (some (.sh d)) => .ok (.sh d) ρ
  | some (some (.own ds)) => if j ∈ m then .bad else .ok (.sh (.lst ds)) (ρ.set j (some (.sh (.lst ds))))
  | _ => .bad
theorem q_frza {j : Nat} : frzK m (.al j) ρ = lookF m j ρ ρ[j]? := by
  unfold frzK frz lookF
  dsimp only
  generalize ρ[j]? = o
  cases o with
  | none => rfl
  | some o =>
    cases o with
    | none => rfl
    | some t =>
      cases t with
      | sh d => rfl
      | own ds => dsimp only; by_cases hj : j ∈ m <;> simp only [hj, if_true, if_false]
      | al k => rfl
theorem q_lookFs {j : Nat} : lookF m j ρ (some (some (.sh d))) = .ok (.sh d) ρ := rfl
theorem q_lookFo {j : Nat} : lookF m j ρ (some (some (.own ds))) = if j ∈ m then .bad else .ok (.sh (.lst ds)) (ρ.set j (some (.sh (.lst ds)))) := rfl
def mkL (ρ : Env) : Option (List D) → R T
  | some ds => if ds.length ≤ sizeLine then .ok (.own ds) ρ else .bad
  | none => .bad
def mkT (ρ : Env) : Option (List D) → R T
  | some ds => if ds.length ≤ sizeLine then .ok (.sh (.tup ds)) ρ else .bad
  | none => .bad
theorem q_lst {fs : Env → R (List T)} : eLst fs ρ = (fs ρ).bind fun ts ρ1 => mkL ρ1 (shs ts) := by
  rfl
theorem q_tup {fs : Env → R (List T)} : eTup fs ρ = (fs ρ).bind fun ts ρ1 => mkT ρ1 (shs ts) := by
  rfl
theorem q_mkL : mkL ρ (some ds) = if ds.length ≤ sizeLine then .ok (.own ds) ρ else .bad := rfl
theorem q_mkT : mkT ρ (some ds) = if ds.length ≤ sizeLine then .ok (.sh (.tup ds)) ρ else .bad := rfl
theorem small {n : Nat} (h : n ≤ 1000) : n ≤ sizeLine := Nat.le_trans h (by decide)
theorem q_cB {fa : Env → R T} : cB fa ρ = (fa ρ).bind fun t ρ1 => opt ((view ρ1 t).bind isBl) ρ1 := rfl
theorem q_cV {fa : Env → R T} : cV fa ρ = (fa ρ).bind fun t ρ1 => opt ((view ρ1 t).bind truD) ρ1 := rfl
theorem q_cAnd {fa fb : Env → R Bool} : cAnd fa fb ρ = (fa ρ).bind fun a ρ1 => if a = true then fb ρ1 else .ok false ρ1 := rfl
theorem q_cOr {fa fb : Env → R Bool} : cOr fa fb ρ = (fa ρ).bind fun a ρ1 => if a = true then .ok true ρ1 else fb ρ1 := rfl
theorem q_cNot {fa : Env → R Bool} : cNot fa ρ = (fa ρ).bind fun a ρ1 => .ok (!a) ρ1 := rfl
theorem q_eIf {c : Env → R Bool} {fa fb : Env → R T} : eIf c fa fb ρ = (c ρ).bind fun b ρ1 => if b = true then fa ρ1 else fb ρ1 := rfl
theorem q_isBl {b : Bool} : isBl (.bl b) = some b := rfl
def andK (fb : Env → R T) (ρ : Env) : Option Bool → R T
  | some true => fb ρ
  | some false => .ok (.sh (.bl false)) ρ
  | none => .bad
def orK (fb : Env → R T) (ρ : Env) : Option Bool → R T
  | some true => .ok (.sh (.bl true)) ρ
  | some false => fb ρ
  | none => .bad
def notK (ρ : Env) : Option Bool → R T
  | some b => .ok (.sh (.bl (!b))) ρ
  | none => .bad
theorem q_eAnd {fa fb : Env → R T} : eAnd fa fb ρ = (fa ρ).bind fun t ρ1 => andK fb ρ1 ((view ρ1 t).bind isBl) := rfl
theorem q_eOr {fa fb : Env → R T} : eOr fa fb ρ = (fa ρ).bind fun t ρ1 => orK fb ρ1 ((view ρ1 t).bind isBl) := rfl
theorem q_eNot {fa : Env → R T} : eNot fa ρ = (fa ρ).bind fun t ρ1 => notK ρ1 ((view ρ1 t).bind isBl) := rfl
theorem q_andT {fb : Env → R T} : andK fb ρ (some true) = fb ρ := rfl
theorem q_andF {fb : Env → R T} : andK fb ρ (some false) = .ok (.sh (.bl false)) ρ := rfl
theorem q_orT {fb : Env → R T} : orK fb ρ (some true) = .ok (.sh (.bl true)) ρ := rfl
theorem q_orF {fb : Env → R T} : orK fb ρ (some false) = fb ρ := rfl
theorem q_notK {b : Bool} : notK ρ (some b) = .ok (.sh (.bl (!b))) ρ := rfl
/-! stores -/
theorem q_ix {fv fk : Env → R T} : sIx i fv fk ρ = (fv ρ).s fun tv ρ1 => sIxJ i fk tv ρ1 := rfl
def lookJ (i : Nat) (fk : Env → R T) (d : D) (ρ : Env) : Option (Option T) → RS
  | some (some (.own _)) => (fk ρ).s fun tk ρ2 => sIxK i d tk ρ2
  | _ => .bad
theorem q_ixJ {fk : Env → R T} : sIxJ i fk (.sh d) ρ = lookJ i fk d ρ ρ[i]? := by
  unfold sIxJ lookJ
  generalize ρ[i]? = o
  cases o with
  | none => rfl
  | some o =>
    cases o with
    | none => rfl
    | some t => cases t <;> rfl
theorem q_lookJ {fk : Env → R T} : lookJ i fk d ρ (some (some (.own ds))) = (fk ρ).s fun tk ρ2 => sIxK i d tk ρ2 := rfl
def stK (i : Nat) (d : D) (ρ : Env) (ds : List D) : Option Nat → RS
  | some j => .nx (ρ.set i (some (.own (ds.set j d))))
  | none => .bad
def lookK (i : Nat) (d : D) (ρ : Env) : Option D → Option (Option T) → RS
  | some (.int k), some (some (.own ds)) => stK i d ρ ds (L2.ixN ds.length k)
  | _, _ => .bad
theorem q_ixK {tk : T} : sIxK i d tk ρ = lookK i d ρ (view ρ tk) ρ[i]? := by
  unfold sIxK lookK stK
  rfl
theorem q_lookK {k : Int} : lookK i d ρ (some (.int k)) (some (some (.own ds))) = stK i d ρ ds (L2.ixN ds.length k) := rfl
theorem q_stK {j : Nat} : stK i d ρ ds (some j) = .nx (ρ.set i (some (.own (ds.set j d)))) := rfl
/-! calls -/
theorem q_callP {f : List D → RP} : callP f ds ρ = match f ds with
  | .ok r => .ok r ρ
  | .ex x => .ex x ρ
  | .bad => .bad := rfl
def callO (f : List D → RP) (ρ : Env) : Option (List D) → R T
  | some ds => callP f ds ρ
  | none => .bad
theorem q_call {f : List D → RP} {fs : Env → R (List T)} : eCall f fs ρ = (fs ρ).bind fun ts ρ1 => callO f ρ1 (shs ts) := rfl
theorem q_callO {f : List D → RP} : callO f ρ (some ds) = callP f ds ρ := rfl
def resC (i : Nat) (ρ : Env) : RM → R T
  | .ok r ds1 => .ok r (ρ.set i (some (.own ds1)))
  | .ex x ds1 => .ex x (ρ.set i (some (.own ds1)))
  | .bad => .bad
def lookC (f : List D → List D → RM) (i : Nat) (ρ : Env) : Option (Option T) → Option (List D) → R T
  | some (some (.own ds0)), some ds => resC i ρ (f ds0 ds)
  | _, _ => .bad
def callK (f : List D → List D → RM) (ts : List T) (ρ1 : Env) : R T := match ts with
  | .al i :: ts' => lookC f i ρ1 ρ1[i]? (shs ts')
  | _ => .bad
theorem q_callM {f : List D → List D → RM} {fs : Env → R (List T)} : eCallM f fs ρ = (fs ρ).bind fun ts ρ1 => callK f ts ρ1 := rfl
theorem q_callK {f : List D → List D → RM} : callK f (.al i :: ts) ρ = lookC f i ρ ρ[i]? (shs ts) := rfl
theorem q_lookC {f : List D → List D → RM} : lookC f i ρ (some (some (.own ds0))) (some ds) = resC i ρ (f ds0 ds) := rfl
theorem q_resC : resC i ρ (.ok t ds1) = .ok t (ρ.set i (some (.own ds1))) := rfl
theorem q_resCx {x : Exn} : resC i ρ (.ex x ds1) = .ex x (ρ.set i (some (.own ds1))) := rfl
def lookL (k : List D → RM) : Option (Option T) → RM
  | some (some (T.own ds1)) => k ds1
  | _ => .bad
theorem q_lent {k : List D → RM} : lent0 ρ k = lookL k ρ[0]? := rfl
theorem q_lookL {k : List D → RM} : lookL k (some (some (.own ds))) = k ds := rfl
theorem q_resM : resM (.rt (.sh d) ρ) = lent0 ρ fun ds1 => .ok (.sh d) ds1 := rfl
theorem q_resMo : resM (.rt (.own ds) ρ) = lent0 ρ fun ds1 => .ok (.own ds) ds1 := rfl
theorem q_resMn : resM (.nx ρ) = lent0 ρ fun ds1 => .ok (.sh .non) ds1 := rfl
theorem q_resMx {x : Exn} : resM (.ex x ρ) = lent0 ρ fun ds1 => .ex x ds1 := rfl
theorem q_resP : resP (.rt (.sh d) ρ) = .ok (.sh d) := rfl
theorem q_resPo : resP (.rt (.own ds) ρ) = .ok (.own ds) := rfl
theorem q_resPn : resP (.nx ρ) = .ok (.sh .non) := rfl
theorem q_resPx {x : Exn} : resP (.ex x ρ) = .ex x := rfl
theorem q_denM {np n : Nat} {g : Env → RS} (h : ds.length + 1 = np) : denM np n g ds0 ds = resM (g (startE n (T.own ds0 :: ds.map T.sh))) := if_pos h
theorem q_denP {np n : Nat} {g : Env → RS} (h : ds.length = np) : denP np n g ds = resP (g (startE n (ds.map T.sh))) := if_pos h
/-! operators -/
theorem q_asBl {g : D → D → Option Bool} {a b : D} : asBl g a b = (g a b).map fun k => .sh (.bl k) := rfl
theorem q_lt {a b : Int} : ltD (.int a) (.int b) = some (decide (a < b)) := rfl
theorem q_le {a b : Int} : leD (.int a) (.int b) = some (decide (a ≤ b)) := rfl
theorem q_gt {a b : Int} : gtD (.int a) (.int b) = some (decide (b < a)) := rfl
theorem q_ge {a b : Int} : geD (.int a) (.int b) = some (decide (b ≤ a)) := rfl
theorem q_add {a b : Int} : addD (.int a) (.int b) = some (.sh (.int (a + b))) := rfl
theorem q_sub {a b : Int} : subD (.int a) (.int b) = some (.sh (.int (a - b))) := rfl
theorem q_mul {a b : Int} : mulD (.int a) (.int b) = if mulOk a b = true then some (.sh (.int (a * b))) else none := rfl
theorem q_fdiv {a b : Int} : fdivD (.int a) (.int b) = if divOk b = true then some (.sh (.int (a.fdiv b))) else none := rfl
theorem q_mod {a b : Int} : modD (.int a) (.int b) = if b = 0 then none else some (.sh (.int (a.fmod b))) := rfl
theorem q_neg {a : Int} : negD (.int a) = some (.sh (.int (-a))) := rfl
theorem q_int {a : Int} : intD [.int a] = some (.sh (.int a)) := rfl
theorem q_intb {b : Bool} : intD [.bl b] = some (.sh (.int (if b then 1 else 0))) := rfl
theorem q_abs {a : Int} : absD [.int a] = some (.sh (.int (if a < 0 then -a else a))) := rfl
theorem q_len : lenD [.lst xs] = some (.sh (.int xs.length)) := rfl
theorem q_lent1 : lenD [.tup xs] = some (.sh (.int xs.length)) := rfl
theorem q_lenr : lenD [.rol xs] = some (.sh (.int xs.length)) := rfl
theorem q_ixl {k : Int} : ixD (.lst xs) (.int k) = (L2.atI xs k).map .sh := rfl
theorem q_ixt {k : Int} : ixD (.tup xs) (.int k) = (L2.atI xs k).map .sh := rfl
theorem q_ixr {k : Int} : ixD (.rol xs) (.int k) = (L2.atI xs k).map .sh := rfl
theorem q_trub {b : Bool} : truD (.bl b) = some b := rfl
theorem q_trun : truD .non = some false := rfl
theorem q_trui {a : Int} : truD (.int a) = some (a != 0) := rfl
theorem q_trul : truD (.lst xs) = some (!xs.isEmpty) := rfl
theorem q_trut : truD (.tup xs) = some (!xs.isEmpty) := rfl
theorem q_isn {a : D} : isD a .non = some (isNonD a) := by cases a <;> rfl
theorem q_isNn {a : D} : isNotD a .non = some (!isNonD a) := by cases a <;> rfl
theorem q_isiT {bs : List String} {fa : Env → R T} : eIsiT bs fa ρ = (fa ρ).bind fun t ρ1 => opt ((view ρ1 t).bind fun d => (tyName d).bind fun a => (isiAll a bs).map fun k => T.sh (.bl k)) ρ1 := rfl
theorem at0 {a : α} {xs : List α} : L2.atI (a :: xs) 0 = some a := by
  unfold L2.atI L2.ixN
  simp
theorem at1 {a b : α} {xs : List α} : L2.atI (a :: b :: xs) 1 = some b := by
  unfold L2.atI L2.ixN
  have h : (1 : Int) < ((a :: b :: xs).length : Nat) := by simp only [List.length_cons]; omega
  rw [if_pos (by decide), if_pos h]
  rfl
theorem at2 {a b c : α} {xs : List α} : L2.atI (a :: b :: c :: xs) 2 = some c := by
  unfold L2.atI L2.ixN
  have h : (2 : Int) < ((a :: b :: c :: xs).length : Nat) := by simp only [List.length_cons]; omega
  rw [if_pos (by decide), if_pos h]
  rfl
theorem ixN1 {n : Nat} : L2.ixN (n + 1 + 1) 1 = some 1 := by
  unfold L2.ixN
  rw [if_pos (by decide), if_pos (by omega)]
  rfl
theorem ixN2 {n : Nat} : L2.ixN (n + 1 + 1 + 1) 2 = some 2 := by
  unfold L2.ixN
  rw [if_pos (by decide), if_pos (by omega)]
  rfl
end
end Pf

namespace Pf
open PySem PySem.Spec L2

/-! ### plain facts -/
def Big (z : Int) : Prop := Builtin.Int.intBits z ≤ 1048576
theorem bits64 {z : Int} (h : z.natAbs < 2 ^ 64) : Builtin.Int.intBits z ≤ 64 := intBits_le_iff.mpr h
theorem mulOk_of {a b : Int} {m n : Nat} (ha : Builtin.Int.intBits a ≤ m) (hb : Builtin.Int.intBits b ≤ n) (h : m + n ≤ 134217728) : mulOk a b = true := by
  unfold mulOk
  refine decide_eq_true ?_
  omega
theorem mulOk64 {a b : Int} (ha : a.natAbs < 2 ^ 64) (hb : b.natAbs < 2 ^ 64) : mulOk a b = true := mulOk_of (bits64 ha) (bits64 hb) (by decide)
theorem divOk_of {b : Int} (h : 0 < b) (h2 : b < 1073741824) : divOk b = true := by
  unfold divOk
  rw [Bool.or_eq_true]
  exact .inl (decide_eq_true ⟨by omega, by omega⟩)
theorem powOk {a b : Int} (h : 0 ≤ b) (h2 : b ≤ 1000000) (h3 : a.natAbs < 2 ^ 64) : powD (.int a) (.int b) = some (.sh (.int (a ^ b.toNat))) := by
  unfold powD
  dsimp only
  rw [if_pos (decide_eq_true ⟨h, h2, h3⟩)]
theorem toPys_int : ∀ cs : List Int, toPys (cs.map D.int) = some (cs.map PyData.int)
  | [] => rfl
  | c :: cs => by
    show (match toPy (.int c), toPys (cs.map D.int) with
      | some p, some ps => some (p :: ps)
      | _, _ => none) = _
    rw [toPys_int cs]
    rfl
theorem can_int : ∀ cs : List Int, PyData.canLayAll0 (cs.map PyData.int) = true
  | [] => rfl
  | c :: cs => by
    rw [List.map_cons]
    unfold PyData.canLayAll0
    rw [can_int cs]
    rfl
theorem depth_int : ∀ cs : List Int, PyData.depthAll (cs.map PyData.int) = 0
  | [] => rfl
  | c :: cs => by
    rw [List.map_cons]
    unfold PyData.depthAll
    rw [depth_int cs]
    rfl
theorem shaped_int (cs : List Int) : SeqAt.shaped (.list (cs.map PyData.int)) = true := by
  unfold SeqAt.shaped
  have h1 : PyData.canLay0 (.list (cs.map PyData.int)) = true := can_int cs
  have h2 : PyData.depth (.list (cs.map PyData.int)) = 1 := by
    show PyData.depthAll _ + 1 = 1
    rw [depth_int]
  rw [h1, h2]
  rfl
/-- a list of ints against the empty list -/
theorem ne_empty (cs : List Int) : neD (.lst (cs.map D.int)) (.lst []) = some (!cs.isEmpty) := by
  unfold neD eqD
  dsimp only
  have e1 : toPy (.lst (cs.map D.int)) = some (.list (cs.map PyData.int)) := by
    show (toPys _).map PyData.list = _
    rw [toPys_int]; rfl
  have e2 : toPy (.lst []) = some (.list []) := rfl
  rw [e1, e2]
  have e3 : SeqAt.shaped (.list []) = true := shaped_int []
  simp only [shaped_int, e3, Bool.and_self, if_true, Option.map_some]
  cases cs with
  | nil => rfl
  | cons c cs => rfl
/-! ### the source of numbers -/
def driftT (fc : Env → R T) (k1 k2 q1 k3 k4 q2 k5 k6 k7 q3 : Int) : Env → RS :=
  sSeq (sIf (cB (e2 (asBl gtD) (e2 ixD (eV 0) (eC (.int 2))) (eC (.int 0)))) (sSeq (sSet [0] 2 (eN intD (aCons (e2 ixD (eV 0) (eC (.int 2))) (aNil)))) (sSeq (sIx 0 (e2 fdivD (eV 2) (eV 1)) (eC (.int 2))) (sRet [0] (e2 modD (eN intD (aCons (eV 2) (aNil))) (eV 1))))) (sNil))
  (sSeq (sSet [0] 3 (e2 ixD (eV 0) (eC (.int 1))))
  (sSeq (sIx 0 (eF [0] (e2 addD (eV 3) (eC (.int 1)))) (eC (.int 1)))
  (sSeq (sSet [0] 4 (e2 addD (e2 mulD (eC (.int k1)) (eV 3)) (eC (.int k2))))
  (sSeq (sIf (cB (e2 (asBl neD) (e2 ixD (eV 0) (eC (.int 0))) (eLst (aNil)))) (sSet [0] 4 (e2 ixD (e2 ixD (eV 0) (eC (.int 0))) (e2 modD (eN intD (aCons (eV 3) (aNil))) (eN lenD (aCons (e2 ixD (eV 0) (eC (.int 0))) (aNil)))))) (sNil))
  (sSeq (sIf (cAnd (cB (e2 (asBl ltD) (eV 3) (eN lenD (aCons (e2 ixD (eV 0) (eC (.int 0))) (aNil))))) (cB (e2 (asBl geD) (eN absD (aCons (eV 4) (aNil))) (e2 powD (eC (.int 10)) (eC (.int 18))))))
    (sSeq (sSet [0] 2 (e2 addD (e2 mulD (eC (.int 2)) (e2 subD (eN absD (aCons fc (aNil))) (e2 powD (eC (.int 10)) (eC (.int 18))))) (eN intD (aCons (e2 (asBl ltD) (eV 4) (eC (.int 0))) (aNil))))) (sSeq (sIx 0 (e2 fdivD (eV 2) (eV 1)) (eC (.int 2))) (sRet [0] (e2 modD (eN intD (aCons (eV 2) (aNil))) (eV 1))))) (sNil))
  (sSeq (sSet [0] 5 (e2 modD (eN intD (aCons (e2 powD (e2 addD (e2 addD (e2 modD (eN intD (aCons (eV 4) (aNil))) (eC (.int q1))) (e2 mulD (eC (.int k3)) (eV 3))) (eC (.int k4))) (eC (.int 5))) (aNil))) (eC (.int q2))))
  (sSeq (sSet [0] 5 (e2 modD (eN intD (aCons (e2 powD (e2 addD (e2 addD (e2 mulD (eV 5) (e2 addD (e2 mulD (eC (.int 2)) (eV 3)) (eC (.int k5)))) (e2 mulD (e2 mulD (eC (.int k6)) (eV 3)) (eV 3))) (eC (.int k7))) (eC (.int 3))) (aNil))) (eC (.int q3))))
  (sRet [0] (e2 modD (eN intD (aCons (e2 fdivD (eV 5) (eC (.int 64))) (aNil))) (eV 1))))))))))
/-- the source's state: at most n turns -/
structure Src (n : Nat) (ds : List D) : Prop where
  ex : ∃ (cs : List Int) (t l : Int), ds = [.lst (cs.map D.int), .int t, .int l] ∧ 0 ≤ t ∧ t ≤ n ∧ 0 ≤ l ∧ (∀ c ∈ cs, Big c) ∧ cs.length ≤ 64
theorem Src.mono {m n : Nat} {ds : List D} (h : Src m ds) (l : m ≤ n) : Src n ds := by
  obtain ⟨cs, t, k, h1, h2, h3, h4⟩ := h.ex
  exact ⟨cs, t, k, h1, h2, by omega, h4⟩
theorem at_int {cs : List Int} {i : Int} (h0 : 0 ≤ i) (h1 : i < cs.length) : ∃ c ∈ cs, L2.atI (cs.map D.int) i = some (.int c) := by
  have h2 : i.toNat < cs.length := by omega
  refine ⟨cs[i.toNat], List.getElem_mem h2, ?_⟩
  unfold L2.atI L2.ixN
  rw [List.length_map, if_pos h0, if_pos h1]
  show (cs.map D.int)[i.toNat]? = _
  rw [List.getElem?_map, List.getElem?_eq_getElem h2]
  rfl
theorem pow18 : powD (.int 10) (.int 18) = some (.sh (.int 1000000000000000000)) := by rfl
theorem drift_left {fc : Env → R T} {k1 k2 q1 k3 k4 q2 k5 k6 k7 q3 : Int} {cs : List Int} {t l many : Int} (hl : 0 < l) (h0 : 0 < many) (h1 : many < 1073741824) :
    denM 2 6 (driftT fc k1 k2 q1 k3 k4 q2 k5 k6 k7 q3) [.lst (cs.map D.int), .int t, .int l] [.int many] = .ok (.sh (.int (l.fmod many))) [.lst (cs.map D.int), .int t, .int (l.fdiv many)] := by
  have e := divOk_of h0 h1
  have hm : ¬ many = 0 := by omega
  refine (q_denM rfl).trans ?_
  unfold driftT
  simp only [q_bind, q_bindx, q_s, q_sx, q_nx, q_rt, q_bk, q_ct, q_ex, q_seq, q_nil, q_if, q_expr, q_set, q_put, q_puto, q_puta, q_lookPs, q_lookPo, q_ret0, q_ret, q_reto, q_reta, q_lookRs, q_lookRo, q_c, q_v, q_lookVs, q_lookVo, q_view, q_viewo, q_viewa, q_slots, q_sloto, q_opt, q_e1, q_e2, q_eN, q_an, q_ac, q_views0, q_views, q_shs0, q_shs, q_f, q_frz, q_frzo, q_frza, q_lookFs, q_lookFo, q_lst, q_tup, q_mkL, q_mkT, q_cB, q_cV, q_cAnd, q_cOr, q_cNot, q_eIf, q_isBl, q_eAnd, q_eOr, q_eNot, q_andT, q_andF, q_orT, q_orF, q_notK, q_ix, q_ixJ, q_lookJ, q_ixK, q_lookK, q_stK, q_call, q_callO, q_callM, q_callK, q_lookC, q_resC, q_resCx, q_lent, q_lookL, q_resM, q_resMo, q_resMn, q_resMx, q_resP, q_resPo, q_resPn, q_resPx, q_asBl, List.not_mem_nil, q_lt, q_le, q_gt, q_ge, q_add, q_sub, q_mul, q_fdiv, q_mod, q_neg, q_int, q_intb, q_abs, q_len, q_lent1, q_lenr, q_ixl, q_ixt, q_ixr, q_trub, q_trun, q_trui, q_trul, q_trut, q_isn, q_isNn, q_isiT, at0, at1, at2, ixN1, ixN2, startE, List.map_cons, List.map_nil, List.length_cons, List.length_nil, List.replicate, List.cons_append, List.nil_append, List.getElem?_cons_zero, List.getElem?_cons_succ, List.set_cons_zero, List.set_cons_succ, Option.map_some, Option.bind_some, Option.map_none, Option.bind_none, Nat.reduceAdd, Nat.reduceSub, if_true, if_false, Bool.false_eq_true, decide_true, decide_false, Bool.not_true, Bool.not_false, reduceIte, List.length_map, hl, e, hm]
def mixV (q1 k3 k4 q2 k5 k6 k7 q3 t c : Int) : Int := (((((c.fmod q1 + k3 * t + k4) ^ 5).fmod q2 * (2 * t + k5) + k6 * t * t + k7) ^ 3).fmod q3).fdiv 64
theorem drift_mix {fc : Env → R T} {k1 k2 q1 k3 k4 q2 k5 k6 k7 q3 : Int} {t many c : Int} {cs : List Int} (h0 : 0 < many)
    (a1 : mulOk k1 t = true) (a2 : mulOk k3 t = true) (a3 : ∀ z, 0 ≤ z → z < q2 → mulOk z (2 * t + k5) = true) (a4 : mulOk 2 t = true) (a5 : mulOk k6 t = true) (a6 : mulOk (k6 * t) t = true) (q1p : 0 < q1) (q2p : 0 < q2) (q3p : 0 < q3)
    (p1 : powD (.int (c.fmod q1 + k3 * t + k4)) (.int 5) = some (.sh (.int ((c.fmod q1 + k3 * t + k4) ^ 5)))) (p2 : ∀ z, 0 ≤ z → z < q2 → powD (.int (z * (2 * t + k5) + k6 * t * t + k7)) (.int 3) = some (.sh (.int ((z * (2 * t + k5) + k6 * t * t + k7) ^ 3))))
    (t0 : 0 ≤ t) (hc : (cs = [] ∧ c = k1 * t + k2) ∨ (cs ≠ [] ∧ L2.atI (cs.map D.int) (t.fmod cs.length) = some (.int c))) (hs : ¬ (t < cs.length ∧ (1000000000000000000 : Int) ≤ (if c < 0 then -c else c))) :
    denM 2 6 (driftT fc k1 k2 q1 k3 k4 q2 k5 k6 k7 q3) [.lst (cs.map D.int), .int t, .int 0] [.int many] = .ok (.sh (.int ((mixV q1 k3 k4 q2 k5 k6 k7 q3 t c).fmod many))) [.lst (cs.map D.int), .int (t + 1), .int 0] := by
  have hm : ¬ many = 0 := by omega
  have d64 : divOk 64 = true := by decide
  have n1 : ¬ q1 = 0 := by omega
  have n2 : ¬ q2 = 0 := by omega
  have n3 : ¬ q3 = 0 := by omega
  have tn : ¬ t < 0 := by omega
  have z1 : 0 ≤ ((c.fmod q1 + k3 * t + k4) ^ 5).fmod q2 := Int.fmod_nonneg_of_pos _ q2p
  have z2 : ((c.fmod q1 + k3 * t + k4) ^ 5).fmod q2 < q2 := Int.fmod_lt_of_pos _ q2p
  have b1 := a3 _ z1 z2
  have b2 := p2 _ z1 z2
  have l0 : ¬ (0 : Int) < 0 := by decide
  have sz0 : (0 : Nat) ≤ sizeLine := Nat.zero_le _
  refine (q_denM rfl).trans ?_
  unfold driftT mixV
  rcases hc with ⟨rfl, rfl⟩ | ⟨hne, hat⟩
  · have e0 : neD (.lst (([] : List Int).map D.int)) (.lst []) = some false := ne_empty []
    have e0 : neD (.lst []) (.lst []) = some false := e0
    have hl : ¬ t < (((0 : Nat)) : Int) := by show ¬ t < (0 : Int); exact tn
    simp only [q_bind, q_bindx, q_s, q_sx, q_nx, q_rt, q_bk, q_ct, q_ex, q_seq, q_nil, q_if, q_expr, q_set, q_put, q_puto, q_puta, q_lookPs, q_lookPo, q_ret0, q_ret, q_reto, q_reta, q_lookRs, q_lookRo, q_c, q_v, q_lookVs, q_lookVo, q_view, q_viewo, q_viewa, q_slots, q_sloto, q_opt, q_e1, q_e2, q_eN, q_an, q_ac, q_views0, q_views, q_shs0, q_shs, q_f, q_frz, q_frzo, q_frza, q_lookFs, q_lookFo, q_lst, q_tup, q_mkL, q_mkT, q_cB, q_cV, q_cAnd, q_cOr, q_cNot, q_eIf, q_isBl, q_eAnd, q_eOr, q_eNot, q_andT, q_andF, q_orT, q_orF, q_notK, q_ix, q_ixJ, q_lookJ, q_ixK, q_lookK, q_stK, q_call, q_callO, q_callM, q_callK, q_lookC, q_resC, q_resCx, q_lent, q_lookL, q_resM, q_resMo, q_resMn, q_resMx, q_resP, q_resPo, q_resPn, q_resPx, q_asBl, List.not_mem_nil, q_lt, q_le, q_gt, q_ge, q_add, q_sub, q_mul, q_fdiv, q_mod, q_neg, q_int, q_intb, q_abs, q_len, q_lent1, q_lenr, q_ixl, q_ixt, q_ixr, q_trub, q_trun, q_trui, q_trul, q_trut, q_isn, q_isNn, q_isiT, at0, at1, at2, ixN1, ixN2, startE, List.map_cons, List.map_nil, List.length_cons, List.length_nil, List.replicate, List.cons_append, List.nil_append, List.getElem?_cons_zero, List.getElem?_cons_succ, List.set_cons_zero, List.set_cons_succ, Option.map_some, Option.bind_some, Option.map_none, Option.bind_none, Nat.reduceAdd, Nat.reduceSub, if_true, if_false, Bool.false_eq_true, decide_true, decide_false, Bool.not_true, Bool.not_false, reduceIte, List.length_map, sz0, l0, e0, a1, a2, a4, a5, a6, b1, b2, p1, n1, n2, n3, hm, d64, tn, List.length_map, hl]
  · have e0 : neD (.lst (cs.map D.int)) (.lst []) = some true := by rw [ne_empty]; cases cs with | nil => exact absurd rfl hne | cons _ _ => rfl
    have hn : ¬ (cs.length : Int) = 0 := by cases cs with | nil => exact absurd rfl hne | cons _ _ => simp only [List.length_cons]; omega
    by_cases hl : t < cs.length
    · have hb : ¬ ((1000000000000000000 : Int) ≤ (if c < 0 then -c else c)) := fun z => hs ⟨hl, z⟩
      simp only [q_bind, q_bindx, q_s, q_sx, q_nx, q_rt, q_bk, q_ct, q_ex, q_seq, q_nil, q_if, q_expr, q_set, q_put, q_puto, q_puta, q_lookPs, q_lookPo, q_ret0, q_ret, q_reto, q_reta, q_lookRs, q_lookRo, q_c, q_v, q_lookVs, q_lookVo, q_view, q_viewo, q_viewa, q_slots, q_sloto, q_opt, q_e1, q_e2, q_eN, q_an, q_ac, q_views0, q_views, q_shs0, q_shs, q_f, q_frz, q_frzo, q_frza, q_lookFs, q_lookFo, q_lst, q_tup, q_mkL, q_mkT, q_cB, q_cV, q_cAnd, q_cOr, q_cNot, q_eIf, q_isBl, q_eAnd, q_eOr, q_eNot, q_andT, q_andF, q_orT, q_orF, q_notK, q_ix, q_ixJ, q_lookJ, q_ixK, q_lookK, q_stK, q_call, q_callO, q_callM, q_callK, q_lookC, q_resC, q_resCx, q_lent, q_lookL, q_resM, q_resMo, q_resMn, q_resMx, q_resP, q_resPo, q_resPn, q_resPx, q_asBl, List.not_mem_nil, q_lt, q_le, q_gt, q_ge, q_add, q_sub, q_mul, q_fdiv, q_mod, q_neg, q_int, q_intb, q_abs, q_len, q_lent1, q_lenr, q_ixl, q_ixt, q_ixr, q_trub, q_trun, q_trui, q_trul, q_trut, q_isn, q_isNn, q_isiT, at0, at1, at2, ixN1, ixN2, startE, List.map_cons, List.map_nil, List.length_cons, List.length_nil, List.replicate, List.cons_append, List.nil_append, List.getElem?_cons_zero, List.getElem?_cons_succ, List.set_cons_zero, List.set_cons_succ, Option.map_some, Option.bind_some, Option.map_none, Option.bind_none, Nat.reduceAdd, Nat.reduceSub, if_true, if_false, Bool.false_eq_true, decide_true, decide_false, Bool.not_true, Bool.not_false, reduceIte, List.length_map, sz0, l0, e0, hat, hn, a1, a2, a4, a5, a6, b1, b2, p1, n1, n2, n3, hm, d64, tn, hl, hb, pow18, List.length_map]
    · simp only [q_bind, q_bindx, q_s, q_sx, q_nx, q_rt, q_bk, q_ct, q_ex, q_seq, q_nil, q_if, q_expr, q_set, q_put, q_puto, q_puta, q_lookPs, q_lookPo, q_ret0, q_ret, q_reto, q_reta, q_lookRs, q_lookRo, q_c, q_v, q_lookVs, q_lookVo, q_view, q_viewo, q_viewa, q_slots, q_sloto, q_opt, q_e1, q_e2, q_eN, q_an, q_ac, q_views0, q_views, q_shs0, q_shs, q_f, q_frz, q_frzo, q_frza, q_lookFs, q_lookFo, q_lst, q_tup, q_mkL, q_mkT, q_cB, q_cV, q_cAnd, q_cOr, q_cNot, q_eIf, q_isBl, q_eAnd, q_eOr, q_eNot, q_andT, q_andF, q_orT, q_orF, q_notK, q_ix, q_ixJ, q_lookJ, q_ixK, q_lookK, q_stK, q_call, q_callO, q_callM, q_callK, q_lookC, q_resC, q_resCx, q_lent, q_lookL, q_resM, q_resMo, q_resMn, q_resMx, q_resP, q_resPo, q_resPn, q_resPx, q_asBl, List.not_mem_nil, q_lt, q_le, q_gt, q_ge, q_add, q_sub, q_mul, q_fdiv, q_mod, q_neg, q_int, q_intb, q_abs, q_len, q_lent1, q_lenr, q_ixl, q_ixt, q_ixr, q_trub, q_trun, q_trui, q_trul, q_trut, q_isn, q_isNn, q_isiT, at0, at1, at2, ixN1, ixN2, startE, List.map_cons, List.map_nil, List.length_cons, List.length_nil, List.replicate, List.cons_append, List.nil_append, List.getElem?_cons_zero, List.getElem?_cons_succ, List.set_cons_zero, List.set_cons_succ, Option.map_some, Option.bind_some, Option.map_none, Option.bind_none, Nat.reduceAdd, Nat.reduceSub, if_true, if_false, Bool.false_eq_true, decide_true, decide_false, Bool.not_true, Bool.not_false, reduceIte, List.length_map, sz0, l0, e0, hat, hn, a1, a2, a4, a5, a6, b1, b2, p1, n1, n2, n3, hm, d64, tn, hl, pow18, List.length_map]
theorem drift_far {fc : Env → R T} {k1 k2 q1 k3 k4 q2 k5 k6 k7 q3 : Int} {t many c : Int} {cs : List Int} (h0 : 0 < many) (h1 : many < 1073741824)
    (hf : ∀ (a b e f g : Option T) (c : Int), fc [a, b, e, f, some (.sh (.int c)), g] = .ok (.sh (.int c)) [a, b, e, f, some (.sh (.int c)), g])
    (a1 : mulOk k1 t = true) (a2 : mulOk 2 ((if c < 0 then -c else c) - 1000000000000000000) = true)
    (t0 : 0 ≤ t) (hne : cs ≠ []) (hat : L2.atI (cs.map D.int) (t.fmod cs.length) = some (.int c)) (hl : t < cs.length) (hb : (1000000000000000000 : Int) ≤ (if c < 0 then -c else c)) :
    denM 2 6 (driftT fc k1 k2 q1 k3 k4 q2 k5 k6 k7 q3) [.lst (cs.map D.int), .int t, .int 0] [.int many] =
      .ok (.sh (.int ((2 * ((if c < 0 then -c else c) - 1000000000000000000) + (if decide (c < 0) = true then 1 else 0)).fmod many))) [.lst (cs.map D.int), .int (t + 1), .int ((2 * ((if c < 0 then -c else c) - 1000000000000000000) + (if decide (c < 0) = true then 1 else 0)).fdiv many)] := by
  have e := divOk_of h0 h1
  have hm : ¬ many = 0 := by omega
  have l0 : ¬ (0 : Int) < 0 := by decide
  have sz0 : (0 : Nat) ≤ sizeLine := Nat.zero_le _
  refine (q_denM rfl).trans ?_
  unfold driftT
  have e0 : neD (.lst (cs.map D.int)) (.lst []) = some true := by rw [ne_empty]; cases cs with | nil => exact absurd rfl hne | cons _ _ => rfl
  have hn : ¬ (cs.length : Int) = 0 := by cases cs with | nil => exact absurd rfl hne | cons _ _ => simp only [List.length_cons]; omega
  simp only [q_bind, q_bindx, q_s, q_sx, q_nx, q_rt, q_bk, q_ct, q_ex, q_seq, q_nil, q_if, q_expr, q_set, q_put, q_puto, q_puta, q_lookPs, q_lookPo, q_ret0, q_ret, q_reto, q_reta, q_lookRs, q_lookRo, q_c, q_v, q_lookVs, q_lookVo, q_view, q_viewo, q_viewa, q_slots, q_sloto, q_opt, q_e1, q_e2, q_eN, q_an, q_ac, q_views0, q_views, q_shs0, q_shs, q_f, q_frz, q_frzo, q_frza, q_lookFs, q_lookFo, q_lst, q_tup, q_mkL, q_mkT, q_cB, q_cV, q_cAnd, q_cOr, q_cNot, q_eIf, q_isBl, q_eAnd, q_eOr, q_eNot, q_andT, q_andF, q_orT, q_orF, q_notK, q_ix, q_ixJ, q_lookJ, q_ixK, q_lookK, q_stK, q_call, q_callO, q_callM, q_callK, q_lookC, q_resC, q_resCx, q_lent, q_lookL, q_resM, q_resMo, q_resMn, q_resMx, q_resP, q_resPo, q_resPn, q_resPx, q_asBl, List.not_mem_nil, q_lt, q_le, q_gt, q_ge, q_add, q_sub, q_mul, q_fdiv, q_mod, q_neg, q_int, q_intb, q_abs, q_len, q_lent1, q_lenr, q_ixl, q_ixt, q_ixr, q_trub, q_trun, q_trui, q_trul, q_trut, q_isn, q_isNn, q_isiT, at0, at1, at2, ixN1, ixN2, startE, List.map_cons, List.map_nil, List.length_cons, List.length_nil, List.replicate, List.cons_append, List.nil_append, List.getElem?_cons_zero, List.getElem?_cons_succ, List.set_cons_zero, List.set_cons_succ, Option.map_some, Option.bind_some, Option.map_none, Option.bind_none, Nat.reduceAdd, Nat.reduceSub, if_true, if_false, Bool.false_eq_true, decide_true, decide_false, Bool.not_true, Bool.not_false, reduceIte, List.length_map, sz0, l0, e, e0, hat, hn, a1, a2, hm, hl, hb, hf, pow18, List.length_map]
/-- the constants of a source -/
structure CK (k1 k2 q1 k3 k4 q2 k5 k6 k7 q3 : Int) : Prop where
  c1 : 0 ≤ k1 ∧ k1 ≤ 1048576
  c3 : 0 ≤ k3 ∧ k3 ≤ 1048576
  c4 : 0 ≤ k4 ∧ k4 ≤ 1048576
  c5 : 0 ≤ k5 ∧ k5 ≤ 1048576
  c6 : 0 ≤ k6 ∧ k6 ≤ 1048576
  c7 : 0 ≤ k7 ∧ k7 ≤ 1048576
  p1 : 0 < q1 ∧ q1 ≤ 2147483648
  p2 : 0 < q2 ∧ q2 ≤ 2147483648
  p3 : 0 < q3 ∧ q3 ≤ 2147483648
theorem mul_in {a b m n : Int} (ha : 0 ≤ a) (hb : 0 ≤ b) (ha2 : a ≤ m) (hb2 : b ≤ n) : 0 ≤ a * b ∧ a * b ≤ m * n :=
  ⟨Int.mul_nonneg ha hb, Int.mul_le_mul ha2 hb2 hb (Int.le_trans ha ha2)⟩
theorem drift_ok {fc : Env → R T} {k1 k2 q1 k3 k4 q2 k5 k6 k7 q3 : Int} (hk : CK k1 k2 q1 k3 k4 q2 k5 k6 k7 q3)
    (hf : ∀ (a b e f g : Option T) (c : Int), fc [a, b, e, f, some (.sh (.int c)), g] = .ok (.sh (.int c)) [a, b, e, f, some (.sh (.int c)), g]) {n : Nat} {ds : List D} {many : Int} (h : Src n ds) (hn : n ≤ 1000000) (h0 : 0 < many) (h1 : many < 1073741824) :
    ∃ (r : Int) (ds' : List D), denM 2 6 (driftT fc k1 k2 q1 k3 k4 q2 k5 k6 k7 q3) ds [.int many] = .ok (.sh (.int r)) ds' ∧ 0 ≤ r ∧ r < many ∧ Src (n + 1) ds' := by
  obtain ⟨cs, t, l, rfl, t0, t1, l0, big, few⟩ := h.ex
  by_cases hl : 0 < l
  · exact ⟨_, _, drift_left hl h0 h1, Int.fmod_nonneg_of_pos _ h0, Int.fmod_lt_of_pos _ h0, ⟨cs, t, _, rfl, t0, by omega, Int.fdiv_nonneg l0 (by omega), big, few⟩⟩
  · obtain rfl : l = 0 := by omega
    have tb : t ≤ 1000000 := by omega
    have m1 := mul_in hk.c1.1 t0 hk.c1.2 tb
    have m3 := mul_in hk.c3.1 t0 hk.c3.2 tb
    have m6 := mul_in hk.c6.1 t0 hk.c6.2 tb
    have m66 := mul_in m6.1 t0 m6.2 tb
    obtain ⟨_, _⟩ := hk.c4
    obtain ⟨_, _⟩ := hk.c5
    obtain ⟨_, _⟩ := hk.c7
    obtain ⟨_, _⟩ := hk.p1
    obtain ⟨_, _⟩ := hk.p2
    have k1b := hk.c1
    have k3b := hk.c3
    have k6b := hk.c6
    have a1 : mulOk k1 t = true := mulOk64 (by omega) (by omega)
    have a2 : mulOk k3 t = true := mulOk64 (by omega) (by omega)
    have a3 : ∀ z, 0 ≤ z → z < q2 → mulOk z (2 * t + k5) = true := fun z z0 z1 => mulOk64 (by omega) (by omega)
    have a4 : mulOk 2 t = true := mulOk64 (by omega) (by omega)
    have a5 : mulOk k6 t = true := mulOk64 (by omega) (by omega)
    have a6 : mulOk (k6 * t) t = true := mulOk64 (by omega) (by omega)
    have p1 : ∀ c : Int, powD (.int (c.fmod q1 + k3 * t + k4)) (.int 5) = some (.sh (.int ((c.fmod q1 + k3 * t + k4) ^ 5))) := fun c => by
      have := Int.fmod_nonneg_of_pos c hk.p1.1
      have := Int.fmod_lt_of_pos c hk.p1.1
      exact powOk (by decide) (by decide) (by omega)
    have p2 : ∀ z, 0 ≤ z → z < q2 → powD (.int (z * (2 * t + k5) + k6 * t * t + k7)) (.int 3) = some (.sh (.int ((z * (2 * t + k5) + k6 * t * t + k7) ^ 3))) := fun z z0 z1 => by
      have := mul_in (a := z) (b := 2 * t + k5) (m := 2147483648) (n := 3048576) z0 (by omega) (by omega) (by omega)
      exact powOk (by decide) (by decide) (by omega)
    have done : ∀ c, ((cs = [] ∧ c = k1 * t + k2) ∨ (cs ≠ [] ∧ L2.atI (cs.map D.int) (t.fmod cs.length) = some (.int c))) → ¬ (t < cs.length ∧ (1000000000000000000 : Int) ≤ (if c < 0 then -c else c)) →
        ∃ (r : Int) (ds' : List D), denM 2 6 (driftT fc k1 k2 q1 k3 k4 q2 k5 k6 k7 q3) [.lst (cs.map D.int), .int t, .int 0] [.int many] = .ok (.sh (.int r)) ds' ∧ 0 ≤ r ∧ r < many ∧ Src (n + 1) ds' := fun c hc hs =>
      ⟨_, _, drift_mix h0 a1 a2 a3 a4 a5 a6 hk.p1.1 hk.p2.1 hk.p3.1 (p1 c) p2 t0 hc hs, Int.fmod_nonneg_of_pos _ h0, Int.fmod_lt_of_pos _ h0, ⟨cs, t + 1, 0, rfl, by omega, by omega, by omega, big, few⟩⟩
    by_cases hne : cs = []
    · exact done _ (.inl ⟨hne, rfl⟩) fun z => by rw [hne] at z; exact absurd z.1 (by show ¬ t < (0 : Int); omega)
    · have lp : (0 : Int) < cs.length := by cases cs with | nil => exact absurd rfl hne | cons _ _ => simp only [List.length_cons]; omega
      obtain ⟨c, hc, hat⟩ := at_int (cs := cs) (i := t.fmod cs.length) (Int.fmod_nonneg_of_pos _ lp) (Int.fmod_lt_of_pos _ lp)
      by_cases hs : t < cs.length ∧ (1000000000000000000 : Int) ≤ (if c < 0 then -c else c)
      · have hbig := big c hc
        have ha : mulOk 2 ((if c < 0 then -c else c) - 1000000000000000000) = true := by
          refine mulOk_of (m := 64) (n := 1048577) (bits64 (by decide)) ?_ (by decide)
          have h1 : Builtin.Int.intBits (if c < 0 then -c else c) ≤ 1048576 := by
            split
            · exact intBits_neg_le hbig
            · exact hbig
          have h2 := intBits_sub_le (y := 1000000000000000000) (n := 64) h1 (bits64 (by decide))
          exact Nat.le_trans h2 (by decide)
        refine ⟨_, _, drift_far h0 h1 hf a1 ha t0 hne hat hs.1 hs.2, Int.fmod_nonneg_of_pos _ h0, Int.fmod_lt_of_pos _ h0, ⟨cs, t + 1, _, rfl, by omega, by omega, Int.fdiv_nonneg ?_ (by omega), big, few⟩⟩
        have := hs.2
        split <;> omega
      · exact done c (.inr ⟨hne, hat⟩) hs
theorem fc_int : ∀ (a b e f g : Option T) (c : Int), eN intD (aCons (eV 4) aNil) [a, b, e, f, some (.sh (.int c)), g] = .ok (.sh (.int c)) [a, b, e, f, some (.sh (.int c)), g] := fun _ _ _ _ _ _ => rfl
theorem fc_v : ∀ (a b e f g : Option T) (c : Int), eV 4 [a, b, e, f, some (.sh (.int c)), g] = .ok (.sh (.int c)) [a, b, e, f, some (.sh (.int c)), g] := fun _ _ _ _ _ _ => rfl
end Pf

namespace Pf
open PySem PySem.Spec L2
/-! ### comprehensions and loops, plainly -/
section
variable {m vs : List Nat} {gt : D → Env → Option Env} {fe : Env → R T} {fc : Env → R Bool} {gb : Env → RS} {ρ : Env}
def lcK (ρ1 : Env) (vs : List Nat) : R (List D) → R T
  | .ok xs ρ2 => .ok (.own xs) (unw ρ1 vs ρ2)
  | _ => .bad
theorem q_lc {fi : Env → R (List D)} {c : Env → R Bool} : eLc m vs fi gt c fe ρ = (fi ρ).bind fun items ρ1 => lcK ρ1 vs (lcD m vs gt c fe items 0 (wipeE ρ1 vs)) := by
  rfl
theorem q_lcK {ρ2 : Env} {xs : List D} : lcK ρ vs (.ok xs ρ2) = .ok (.own xs) (unw ρ vs ρ2) := rfl
theorem q_iSeq {fa : Env → R T} : iSeq m fa ρ = (eF m fa ρ).bind fun t ρ1 => opt ((view ρ1 t).bind itemsD) ρ1 := rfl
theorem q_iR {op : List D → Option (List D)} {fs : Env → R (List T)} : iR op fs ρ = (fs ρ).bind fun ts ρ1 => opt ((views ρ1 ts).bind op) ρ1 := rfl
theorem q_for {fi : Env → R (List D)} : sFor fi gt gb ρ = (fi ρ).s fun items ρ1 => forD gt gb items ρ1 := rfl
theorem q_gN {i : Nat} {d : D} : gN i d ρ = some (ρ.set i (some (.sh d))) := rfl
theorem q_sl {fa : Env → R T} {lo hi : Env → R (Option Int)} : eSl fa lo hi ρ = (fa ρ).bind fun t ρ1 => (lo ρ1).bind fun l ρ2 => (hi ρ2).bind fun h ρ3 => opt ((view ρ3 t).bind fun d => slD d l h) ρ3 := rfl
theorem q_oN : oNone ρ = .ok none ρ := rfl
def oK (ρ : Env) : Option D → R (Option Int)
  | some (.int i) => .ok (some i) ρ
  | _ => .bad
theorem q_oS {fa : Env → R T} : oSome fa ρ = (fa ρ).bind fun t ρ1 => oK ρ1 (view ρ1 t) := rfl
theorem q_oK {i : Int} : oK ρ (some (.int i)) = .ok (some i) ρ := rfl
theorem q_slr {xs : List D} {l h : Option Int} : slD (.rol xs) l h = some (.own (cutD xs l h)) := rfl
theorem q_sll {xs : List D} {l h : Option Int} : slD (.lst xs) l h = some (.own (cutD xs l h)) := rfl
theorem q_itl {xs : List D} : itemsD (.lst xs) = some xs := rfl
theorem q_itt {xs : List D} : itemsD (.tup xs) = some xs := rfl
/-- a comprehension without a test, by an invariant -/
theorem lcD_inv {items : List D} (I : Nat → Env → Prop) (Pd : D → Prop) (step : ∀ i d ρ, items[i]? = some d → I i ρ → ∃ ρ1 x ρ3, gt d ρ = some ρ1 ∧ eF m fe ρ1 = .ok (.sh x) ρ3 ∧ Pd x ∧ I (i + 1) (wipeE ρ3 vs)) :
    ∀ (j : Nat) (k : Nat) (ρ : Env), j ≤ items.length → k + (items.length - j) ≤ sizeLine → I j ρ → ∃ xs ρ', lcD m vs gt cYes fe (items.drop j) k ρ = .ok xs ρ' ∧ xs.length = items.length - j ∧ (∀ x ∈ xs, Pd x) ∧ I items.length ρ' := by
  intro j
  generalize hn : items.length - j = n
  induction n generalizing j with
  | zero =>
    intro k ρ hj _ h
    have e : j = items.length := by omega
    subst e
    rw [List.drop_length]
    exact ⟨[], ρ, rfl, rfl, fun x hx => (nomatch hx), h⟩
  | succ n ih =>
    intro k ρ hj hk h
    have hlt : j < items.length := by omega
    rw [List.drop_eq_getElem_cons hlt]
    obtain ⟨ρ1, x, ρ3, e1, e2, px, h3⟩ := step j items[j] ρ (List.getElem?_eq_getElem hlt) h
    obtain ⟨xs, ρ', e3, e4, e5, e6⟩ := ih (j + 1) (by omega) (k + 1) _ (by omega) (by omega) h3
    refine ⟨x :: xs, ρ', ?_, by rw [List.length_cons, e4], fun y hy => ?_, e6⟩
    · show (match gt items[j] ρ with
        | none => R.bad
        | some ρ1 => match cYes ρ1 with
          | .ok true ρ2 => match eF m fe ρ2 with
            | .ok (.sh x) ρ3 => if k < sizeLine then match lcD m vs gt cYes fe (items.drop (j + 1)) (k + 1) (wipeE ρ3 vs) with
                | .ok xs ρ4 => .ok (x :: xs) ρ4
                | _ => .bad
              else .bad
            | _ => .bad
          | .ok false ρ2 => lcD m vs gt cYes fe (items.drop (j + 1)) k (wipeE ρ2 vs)
          | _ => .bad) = _
      rw [e1]
      dsimp only [cYes]
      rw [e2]
      dsimp only
      rw [if_pos (by omega), e3]
    · rcases List.mem_cons.mp hy with rfl | hy
      · exact px
      · exact e5 y hy
theorem lcD_all {items : List D} (I : Nat → Env → Prop) (Pd : D → Prop) (step : ∀ i d ρ, items[i]? = some d → I i ρ → ∃ ρ1 x ρ3, gt d ρ = some ρ1 ∧ eF m fe ρ1 = .ok (.sh x) ρ3 ∧ Pd x ∧ I (i + 1) (wipeE ρ3 vs))
    {ρ : Env} (hz : items.length ≤ sizeLine) (h : I 0 ρ) : ∃ xs ρ', lcD m vs gt cYes fe items 0 ρ = .ok xs ρ' ∧ xs.length = items.length ∧ (∀ x ∈ xs, Pd x) ∧ I items.length ρ' := by
  have := lcD_inv I Pd step 0 0 ρ (Nat.zero_le _) (by omega) h
  simpa using this
/-- a comprehension that is a map -/
theorem lcD_map {h : D → D} {ρ : Env} : ∀ {items : List D} (k : Nat), k + items.length ≤ sizeLine → (∀ d ∈ items, ∃ ρ1 ρ3, gt d ρ = some ρ1 ∧ eF m fe ρ1 = .ok (.sh (h d)) ρ3 ∧ wipeE ρ3 vs = ρ) → lcD m vs gt cYes fe items k ρ = .ok (items.map h) ρ
  | [], _, _, _ => rfl
  | d :: items, k, hk, step => by
    obtain ⟨ρ1, ρ3, e1, e2, e3⟩ := step d (List.mem_cons_self ..)
    have ih := lcD_map (h := h) (ρ := ρ) (items := items) (k + 1) (by rw [List.length_cons] at hk; omega) fun x hx => step x (List.mem_cons_of_mem _ hx)
    show (match gt d ρ with
        | none => R.bad
        | some ρ1 => match cYes ρ1 with
          | .ok true ρ2 => match eF m fe ρ2 with
            | .ok (.sh x) ρ3 => if k < sizeLine then match lcD m vs gt cYes fe items (k + 1) (wipeE ρ3 vs) with
                | .ok xs ρ4 => .ok (x :: xs) ρ4
                | _ => .bad
              else .bad
            | _ => .bad
          | .ok false ρ2 => lcD m vs gt cYes fe items k (wipeE ρ2 vs)
          | _ => .bad) = _
    rw [e1]
    dsimp only [cYes]
    rw [e2]
    dsimp only
    rw [if_pos (by rw [List.length_cons] at hk; omega), e3, ih]
    rfl
/-- a loop that goes to its end -/
theorem forD_inv {items : List D} (I : Nat → Env → Prop) (step : ∀ i d ρ, items[i]? = some d → I i ρ → ∃ ρ1 ρ2, gt d ρ = some ρ1 ∧ (gb ρ1 = .nx ρ2 ∨ gb ρ1 = .ct ρ2) ∧ I (i + 1) ρ2) :
    ∀ (j : Nat) (ρ : Env), j ≤ items.length → I j ρ → ∃ ρ', forD gt gb (items.drop j) ρ = .nx ρ' ∧ I items.length ρ' := by
  intro j
  generalize hn : items.length - j = n
  induction n generalizing j with
  | zero =>
    intro ρ hj h
    have e : j = items.length := by omega
    subst e
    rw [List.drop_length]
    exact ⟨ρ, rfl, h⟩
  | succ n ih =>
    intro ρ hj h
    have hlt : j < items.length := by omega
    rw [List.drop_eq_getElem_cons hlt]
    obtain ⟨ρ1, ρ2, e1, e2, h3⟩ := step j items[j] ρ (List.getElem?_eq_getElem hlt) h
    obtain ⟨ρ', e3, e4⟩ := ih (j + 1) (by omega) _ (by omega) h3
    refine ⟨ρ', ?_, e4⟩
    show (match gt items[j] ρ with
      | none => RS.bad
      | some ρ1 => match gb ρ1 with
        | .nx ρ2 => forD gt gb (items.drop (j + 1)) ρ2
        | .ct ρ2 => forD gt gb (items.drop (j + 1)) ρ2
        | .bk ρ2 => .nx ρ2
        | r => r) = _
    rw [e1]
    dsimp only
    rcases e2 with e2 | e2 <;> (rw [e2]; exact e3)
theorem forD_all {items : List D} (I : Nat → Env → Prop) (step : ∀ i d ρ, items[i]? = some d → I i ρ → ∃ ρ1 ρ2, gt d ρ = some ρ1 ∧ (gb ρ1 = .nx ρ2 ∨ gb ρ1 = .ct ρ2) ∧ I (i + 1) ρ2) {ρ : Env} (h : I 0 ρ) : ∃ ρ', forD gt gb items ρ = .nx ρ' ∧ I items.length ρ' := by
  have := forD_inv I step 0 ρ (Nat.zero_le _) h
  simpa using this
end
/-! ### the source at its start, a pick -/
def duneT : Env → RS := sRet [] (eLst (aCons (eF [] (eLc [] [1] (iSeq [] (eSl (eV 0) (oNone) (oSome (eC (.int 60))))) (gN 1) cYes (eN intD (aCons (eV 1) (aNil))))) (aCons (eC (.int 0)) (aCons (eC (.int 0)) (aNil)))))
theorem cutD_ints (ns : List Int) : cutD (ns.map D.int) none (some 60) = (ns.take 60).map D.int := by
  unfold cutD
  have h1 : HT.sIx (ns.map D.int).length 0 none = 0 := rfl
  have h2 : HT.sIx (ns.map D.int).length (ns.map D.int).length (some 60) = min 60 (ns.map D.int).length := HT.sIx_nat _ _ 60
  rw [h1, h2, List.drop_zero, Nat.sub_zero, List.map_take, List.length_map]
  apply List.ext_getElem?
  intro i
  simp only [List.getElem?_take, List.getElem?_map]
  by_cases h60 : i < 60
  · by_cases hn : i < ns.length
    · rw [if_pos (by omega), if_pos h60]
    · rw [if_neg (by omega), if_pos h60, List.getElem?_eq_none (by omega)]; rfl
  · rw [if_neg (by omega), if_neg h60]
theorem dune_ok (ns : List Int) (h1 : ns.length ≤ 63) (h2 : ∀ z ∈ ns, Builtin.Int.intBits z ≤ 1048576) : ∃ ds, denP 1 2 duneT [.rol (ns.map D.int)] = .ok (.own ds) ∧ Src 0 ds := by
  have hz : 0 + ((ns.take 60).map D.int).length ≤ sizeLine := by
    rw [List.length_map, List.length_take]
    exact Nat.le_trans (show _ ≤ 60 by omega) (by decide)
  refine ⟨[.lst ((ns.take 60).map D.int), .int 0, .int 0], ?_, ⟨ns.take 60, 0, 0, rfl, by decide, by decide, by decide, fun c hc => h2 c (List.mem_of_mem_take hc), by rw [List.length_take]; omega⟩⟩
  refine (q_denP rfl).trans ?_
  unfold duneT
  have e := lcD_map (m := []) (vs := [1]) (gt := gN 1) (fe := eN intD (aCons (eV 1) (aNil))) (h := id) (ρ := [some (T.sh (.rol (ns.map D.int))), none]) (items := (ns.take 60).map D.int) 0 hz fun d hd => by
    obtain ⟨z, _, rfl⟩ := List.mem_map.mp hd
    exact ⟨_, _, rfl, rfl, rfl⟩
  rw [List.map_id] at e
  have sz3 : (0 : Nat) + 1 + 1 + 1 ≤ sizeLine := by decide
  simp only [q_bind, q_bindx, q_s, q_sx, q_nx, q_rt, q_bk, q_ct, q_ex, q_seq, q_nil, q_if, q_expr, q_set, q_put, q_puto, q_puta, q_lookPs, q_lookPo, q_ret0, q_ret, q_reto, q_reta, q_lookRs, q_lookRo, q_c, q_v, q_lookVs, q_lookVo, q_view, q_viewo, q_viewa, q_slots, q_sloto, q_opt, q_e1, q_e2, q_eN, q_an, q_ac, q_views0, q_views, q_shs0, q_shs, q_f, q_frz, q_frzo, q_frza, q_lookFs, q_lookFo, q_lst, q_tup, q_mkL, q_mkT, q_cB, q_cV, q_cAnd, q_cOr, q_cNot, q_eIf, q_isBl, q_eAnd, q_eOr, q_eNot, q_andT, q_andF, q_orT, q_orF, q_notK, q_ix, q_ixJ, q_lookJ, q_ixK, q_lookK, q_stK, q_call, q_callO, q_callM, q_callK, q_lookC, q_resC, q_resCx, q_lent, q_lookL, q_resM, q_resMo, q_resMn, q_resMx, q_resP, q_resPo, q_resPn, q_resPx, q_asBl, List.not_mem_nil, q_lt, q_le, q_gt, q_ge, q_add, q_sub, q_mul, q_fdiv, q_mod, q_neg, q_int, q_intb, q_abs, q_len, q_lent1, q_lenr, q_ixl, q_ixt, q_ixr, q_trub, q_trun, q_trui, q_trul, q_trut, q_isn, q_isNn, q_isiT, at0, at1, at2, ixN1, ixN2, startE, List.map_cons, List.map_nil, List.length_cons, List.length_nil, List.replicate, List.cons_append, List.nil_append, List.getElem?_cons_zero, List.getElem?_cons_succ, List.set_cons_zero, List.set_cons_succ, Option.map_some, Option.bind_some, Option.map_none, Option.bind_none, Nat.reduceAdd, Nat.reduceSub, if_true, if_false, Bool.false_eq_true, decide_true, decide_false, Bool.not_true, Bool.not_false, reduceIte, List.length_map, q_lc, q_lcK, q_iSeq, q_sl, q_oN, q_oS, q_oK, q_slr, q_itl, cutD_ints, e, unw, wipeE, ksh, sz3]
def Drifts (f : List D → List D → RM) : Prop := ∀ {n : Nat} {ds : List D} {many : Int}, Src n ds → n ≤ 1000000 → 0 < many → many < 1073741824 → ∃ (r : Int) (ds' : List D), f ds [.int many] = .ok (.sh (.int r)) ds' ∧ 0 ≤ r ∧ r < many ∧ Src (n + 1) ds'
def pickT (f : List D → List D → RM) : Env → RS := sRet [0] (e2 ixD (eV 1) (eCallM f (aCons (eV 0) (aCons (eF [0] (eN lenD (aCons (eV 1) (aNil)))) (aNil)))))
theorem at_some {xs : List D} {i : Int} (h0 : 0 ≤ i) (h1 : i < xs.length) : ∃ d ∈ xs, L2.atI xs i = some d ∧ xs[i.toNat]? = some d := by
  have h2 : i.toNat < xs.length := by omega
  refine ⟨xs[i.toNat], List.getElem_mem h2, ?_, List.getElem?_eq_getElem h2⟩
  unfold L2.atI L2.ixN
  rw [if_pos h0, if_pos h1]
  exact List.getElem?_eq_getElem h2
def Picks (f : List D → List D → RM) : Prop := ∀ {n : Nat} {ds : List D} {xs : List D}, Src n ds → n ≤ 1000000 → xs ≠ [] → xs.length ≤ 1000000 → ∃ (i : Nat) (d : D) (ds' : List D), f ds [.lst xs] = .ok (.sh d) ds' ∧ xs[i]? = some d ∧ d ∈ xs ∧ Src (n + 1) ds'
theorem pick_ok {f : List D → List D → RM} (hf : Drifts f) : Picks (denM 2 2 (pickT f)) := by
  intro n ds xs h hn hne hlen
  have lp : (0 : Int) < xs.length := by cases xs with | nil => exact absurd rfl hne | cons _ _ => simp only [List.length_cons]; omega
  obtain ⟨r, ds', e1, r0, r1, h'⟩ := hf h hn lp (by omega)
  obtain ⟨d, hd, e2, e3⟩ := at_some r0 r1
  refine ⟨r.toNat, d, ds', ?_, e3, hd, h'⟩
  refine (q_denM rfl).trans ?_
  unfold pickT
  simp only [q_bind, q_bindx, q_s, q_sx, q_nx, q_rt, q_bk, q_ct, q_ex, q_seq, q_nil, q_if, q_expr, q_set, q_put, q_puto, q_puta, q_lookPs, q_lookPo, q_ret0, q_ret, q_reto, q_reta, q_lookRs, q_lookRo, q_c, q_v, q_lookVs, q_lookVo, q_view, q_viewo, q_viewa, q_slots, q_sloto, q_opt, q_e1, q_e2, q_eN, q_an, q_ac, q_views0, q_views, q_shs0, q_shs, q_f, q_frz, q_frzo, q_frza, q_lookFs, q_lookFo, q_lst, q_tup, q_mkL, q_mkT, q_cB, q_cV, q_cAnd, q_cOr, q_cNot, q_eIf, q_isBl, q_eAnd, q_eOr, q_eNot, q_andT, q_andF, q_orT, q_orF, q_notK, q_ix, q_ixJ, q_lookJ, q_ixK, q_lookK, q_stK, q_call, q_callO, q_callM, q_callK, q_lookC, q_resC, q_resCx, q_lent, q_lookL, q_resM, q_resMo, q_resMn, q_resMx, q_resP, q_resPo, q_resPn, q_resPx, q_asBl, List.not_mem_nil, q_lt, q_le, q_gt, q_ge, q_add, q_sub, q_mul, q_fdiv, q_mod, q_neg, q_int, q_intb, q_abs, q_len, q_lent1, q_lenr, q_ixl, q_ixt, q_ixr, q_trub, q_trun, q_trui, q_trul, q_trut, q_isn, q_isNn, q_isiT, at0, at1, at2, ixN1, ixN2, startE, List.map_cons, List.map_nil, List.length_cons, List.length_nil, List.replicate, List.cons_append, List.nil_append, List.getElem?_cons_zero, List.getElem?_cons_succ, List.set_cons_zero, List.set_cons_succ, Option.map_some, Option.bind_some, Option.map_none, Option.bind_none, Nat.reduceAdd, Nat.reduceSub, if_true, if_false, Bool.false_eq_true, decide_true, decide_false, Bool.not_true, Bool.not_false, reduceIte, List.length_map, e1, e2]
section
variable {ρ : Env} {d : D} {ds es xs : List D} {x : D}
def consO (o : Option D) (l : List D) : List D := match o with
  | some x => x :: l
  | none => l
theorem q_perm0 : perm [] xs = [] := rfl
theorem q_perm {i : Nat} {π : List Nat} : perm (i :: π) xs = consO xs[i]? (perm π xs) := by
  unfold perm consO
  cases e : xs[i]? with
  | none => rw [List.filterMap_cons_none e]
  | some v => rw [List.filterMap_cons_some e]
theorem q_consO : consO (some x) xs = x :: xs := rfl
def kwO (f : List D → RP) (π : List Nat) (ρ : Env) : Option (List D) → Option (List D) → R T
  | some ds, some es => callP f (perm π (ds ++ es)) ρ
  | _, _ => .bad
theorem q_callKw {n nk : Nat} {π : List Nat} {f : List D → RP} {fs fk : Env → R (List T)} : eCallK n nk π f fs fk ρ = (fs ρ).bind fun ts ρ1 => (fk ρ1).bind fun us ρ2 => if ts.length = n ∧ us.length = nk then kwO f π ρ2 (shs ts) (shs us) else .bad := rfl
theorem q_kwO {π : List Nat} {f : List D → RP} : kwO f π ρ (some ds) (some es) = callP f (perm π (ds ++ es)) ρ := rfl
def unpO : Option Env → RS
  | some ρ2 => .nx ρ2
  | none => .bad
def unpK (gt : D → Env → Option Env) (t : T) (ρ : Env) : RS := match t with
  | .sh d => unpO (gt d ρ)
  | _ => .bad
theorem q_unp {gt : D → Env → Option Env} {fa : Env → R T} : sUnp gt fa ρ = (fa ρ).s fun t ρ1 => unpK gt t ρ1 := rfl
theorem q_unpK {gt : D → Env → Option Env} : unpK gt (.sh d) ρ = unpO (gt d ρ) := rfl
theorem q_unpO : unpO (some ρ) = .nx ρ := rfl
theorem q_gL {gs : List (D → Env → Option Env)} : gL gs (.lst ds) ρ = gAll gs ds ρ := rfl
theorem q_gT {gs : List (D → Env → Option Env)} : gT gs (.tup ds) ρ = gAll gs ds ρ := rfl
theorem q_gA0 : gAll [] [] ρ = some ρ := rfl
theorem q_gA {g : D → Env → Option Env} {gs : List (D → Env → Option Env)} : gAll (g :: gs) (d :: ds) ρ = (g d ρ).bind fun ρ1 => gAll gs ds ρ1 := rfl
theorem ne_str {s : Str} : neD (.str s) (.str s) = some false := by
  show (some (decide (s = s))).map (!·) = _
  rw [decide_eq_true rfl]
  rfl
theorem mul_bl {b : Bool} : mulD (.lst [.bl b]) (.int 2) = some (.own [.bl b, .bl b]) := by rfl
def rp2 (a b : Bool) : Str := PyData.shown (.list [.bool a, .bool b])
theorem repr_bl2 {a b : Bool} : reprD [.lst [.bl a, .bl b]] = some (.sh (.str (rp2 a b))) := by
  cases a <;> cases b <;> rfl
end
theorem seq_to {g h : Env → RS} {ρ ρ1 : Env} (e : g ρ = .nx ρ1) : sSeq g h ρ = h ρ1 := by
  unfold sSeq
  rw [e]
  rfl
theorem seq_rt {g h : Env → RS} {ρ ρ1 : Env} {t : T} (e : g ρ = .rt t ρ1) : sSeq g h ρ = .rt t ρ1 := by
  unfold sSeq
  rw [e]
  rfl
end Pf

namespace Pf
namespace k02
open PySem PySem.Spec L2
def top (i : Nat) : Stmt := PySem.Challenge.pw_baysout_k02_integers_and_points.main.body.getD i (.Pass ⟨0, 0, 0, 0⟩)
abbrev s__law_dune : Stmt := top 5
abbrev s__law_drift : Stmt := top 6
abbrev s__law_pick : Stmt := top 7
abbrev s__law_integer : Stmt := top 8
abbrev s__law_value : Stmt := top 9
abbrev s_is_integer : Stmt := top 1
abbrev s__law_is_integer : Stmt := top 10
abbrev s_is_point : Stmt := top 3
abbrev s__law_is_point : Stmt := top 11
abbrev s_is_within : Stmt := top 2
abbrev s_law : Stmt := top 12
/-! ### what the text computes -/
def g__law_dune : Env → RS :=
  sRet [] (eLst (aCons (eF [] (eLc [] [1] (iSeq [] (eSl (eV 0) (oNone) (oSome (eC (.int 60))))) (gN 1) cYes (eN intD (aCons (eV 1) (aNil))))) (aCons (eC (.int 0)) (aCons (eC (.int 0)) (aNil)))))
def d__law_dune : List D → RP := denP 1 2 g__law_dune
def g__law_drift : Env → RS :=
  sSeq (sIf (cB (e2 (asBl gtD) (e2 ixD (eV 0) (eC (.int 2))) (eC (.int 0)))) (sSeq (sSet [0] 2 (eN intD (aCons (e2 ixD (eV 0) (eC (.int 2))) (aNil)))) (sSeq (sIx 0 (e2 fdivD (eV 2) (eV 1)) (eC (.int 2))) (sRet [0] (e2 modD (eN intD (aCons (eV 2) (aNil))) (eV 1))))) (sNil)) (sSeq (sSet [0] 3 (e2 ixD (eV 0) (eC (.int 1)))) (sSeq (sIx 0 (eF [0] (e2 addD (eV 3) (eC (.int 1)))) (eC (.int 1))) (sSeq (sSet [0] 4 (e2 addD (e2 mulD (eC (.int 112139)) (eV 3)) (eC (.int 8821)))) (sSeq (sIf (cB (e2 (asBl neD) (e2 ixD (eV 0) (eC (.int 0))) (eLst (aNil)))) (sSet [0] 4 (e2 ixD (e2 ixD (eV 0) (eC (.int 0))) (e2 modD (eN intD (aCons (eV 3) (aNil))) (eN lenD (aCons (e2 ixD (eV 0) (eC (.int 0))) (aNil)))))) (sNil)) (sSeq (sIf (cAnd (cB (e2 (asBl ltD) (eV 3) (eN lenD (aCons (e2 ixD (eV 0) (eC (.int 0))) (aNil))))) (cB (e2 (asBl geD) (eN absD (aCons (eV 4) (aNil))) (e2 powD (eC (.int 10)) (eC (.int 18)))))) (sSeq (sSet [0] 2 (e2 addD (e2 mulD (eC (.int 2)) (e2 subD (eN absD (aCons (eN intD (aCons (eV 4) (aNil))) (aNil))) (e2 powD (eC (.int 10)) (eC (.int 18))))) (eN intD (aCons (e2 (asBl ltD) (eV 4) (eC (.int 0))) (aNil))))) (sSeq (sIx 0 (e2 fdivD (eV 2) (eV 1)) (eC (.int 2))) (sRet [0] (e2 modD (eN intD (aCons (eV 2) (aNil))) (eV 1))))) (sNil)) (sSeq (sSet [0] 5 (e2 modD (eN intD (aCons (e2 powD (e2 addD (e2 addD (e2 modD (eN intD (aCons (eV 4) (aNil))) (eC (.int 2147483563))) (e2 mulD (eC (.int 86117)) (eV 3))) (eC (.int 8821))) (eC (.int 5))) (aNil))) (eC (.int 2147483587)))) (sSeq (sSet [0] 5 (e2 modD (eN intD (aCons (e2 powD (e2 addD (e2 addD (e2 mulD (eV 5) (e2 addD (e2 mulD (eC (.int 2)) (eV 3)) (eC (.int 8821)))) (e2 mulD (e2 mulD (eC (.int 112139)) (eV 3)) (eV 3))) (eC (.int 86117))) (eC (.int 3))) (aNil))) (eC (.int 2147483549)))) (sRet [0] (e2 modD (eN intD (aCons (e2 fdivD (eV 5) (eC (.int 64))) (aNil))) (eV 1))))))))))
def d__law_drift : List D → List D → RM := denM 2 6 g__law_drift
def g__law_pick : Env → RS :=
  sRet [0] (e2 ixD (eV 1) (eCallM d__law_drift (aCons (eV 0) (aCons (eF [0] (eN lenD (aCons (eV 1) (aNil)))) (aNil)))))
def d__law_pick : List D → List D → RM := denM 2 2 g__law_pick
def g__law_integer : Env → RS :=
  sRet [0] (eCallM d__law_pick (aCons (eV 0) (aCons (eF [0] (eLst (aCons (eC (.int 0)) (aCons (eC (.int 1)) (aCons (e1 negD (eC (.int 1))) (aCons (eC (.int 7)) (aCons (eF [0] (eCallM d__law_drift (aCons (eV 0) (aCons (eC (.int 100)) (aNil))))) (aCons (e1 negD (eCallM d__law_drift (aCons (eV 0) (aCons (e2 powD (eC (.int 10)) (eC (.int 9))) (aNil))))) (aCons (eF [0] (e2 addD (e2 powD (eC (.int 10)) (eC (.int 25))) (eCallM d__law_drift (aCons (eV 0) (aCons (eC (.int 9)) (aNil)))))) (aCons (e1 negD (e2 powD (eC (.int 10)) (eC (.int 25)))) (aNil))))))))))) (aNil))))
def d__law_integer : List D → List D → RM := denM 1 1 g__law_integer
def g__law_value (d_self : List D → List D → RM) : Env → RS :=
  sSeq (sSet [0] 2 (eCallM d__law_drift (aCons (eV 0) (aCons (eC (.int 8)) (aNil))))) (sSeq (sIf (cOr (cB (e2 (asBl ltD) (eV 2) (eC (.int 4)))) (cB (e2 (asBl eqD) (eV 1) (eC (.int 0))))) (sRet [0] (eCallM d__law_integer (aCons (eV 0) (aNil)))) (sNil)) (sSeq (sIf (cB (e2 (asBl eqD) (eV 2) (eC (.int 4)))) (sRet [0] (eCallM d__law_pick (aCons (eV 0) (aCons (eF [0] (eLst (aCons (eC .non) (aCons (eC (.bl true)) (aCons (eC (.bl false)) (aCons (eC (.str "1")) (aCons (eC (.str "")) (aCons (eC (.str "12")) (aCons (eDict []) (aCons (eTup (aNil)) (aCons (eF [0] (eLst (aNil))) (aCons (eDict [(.inl 0, .int 1)]) (aCons (eTup (aCons (eC (.int 1)) (aCons (eC (.int 2)) (aCons (eC (.int 3)) (aNil))))) (aNil)))))))))))))) (aNil))))) (sNil)) (sSeq (sSet [0] 3 (eLc [0] [4] (iR rng1 (aCons (eCallM d__law_pick (aCons (eV 0) (aCons (eF [0] (eLst (aCons (eC (.int 2)) (aCons (eC (.int 2)) (aCons (eC (.int 2)) (aCons (eC (.int 1)) (aCons (eC (.int 3)) (aNil)))))))) (aNil)))) (aNil))) (gN 4) cYes (eCallM d_self (aCons (eV 0) (aCons (e2 subD (eV 1) (eC (.int 1))) (aNil)))))) (sRet [0] (eIf (cB (e2 (asBl ltD) (eV 2) (eC (.int 7)))) (eV 3) (eN tupleD (aCons (eV 3) (aNil))))))))
def d__law_value : Nat → List D → List D → RM
  | 0 => fun _ _ => .bad
  | k + 1 => denM 2 5 (g__law_value (d__law_value k))
theorem d__law_value_s (k : Nat) : d__law_value (k + 1) = denM 2 5 (g__law_value (d__law_value k)) := rfl
def g_is_integer : Env → RS :=
  sRet [] (eAnd (eN isi1 (aCons (eV 0) (aCons (eC (.ty "int")) aNil))) (eNot (eN isi1 (aCons (eV 0) (aCons (eC (.ty "bool")) aNil)))))
def d_is_integer : List D → RP := denP 1 1 g_is_integer
def g__law_is_integer : Env → RS :=
  sRet [] (eAnd (eN isi1 (aCons (eV 0) (aCons (eC (.ty "int")) aNil))) (eNot (eN isi1 (aCons (eV 0) (aCons (eC (.ty "bool")) aNil)))))
def d__law_is_integer : List D → RP := denP 1 1 g__law_is_integer
def g_is_point : Env → RS :=
  sRet [] (eAnd (eIsiT ["list", "tuple"] (eV 0)) (eAnd (e2 (asBl eqD) (eN lenD (aCons (eV 0) (aNil))) (eC (.int 2))) (eN allD (aCons (eLc [] [1] (iSeq [] (eV 0)) (gN 1) cYes (eCall d_is_integer (aCons (eF [] (eV 1)) (aNil)))) (aNil)))))
def d_is_point : List D → RP := denP 1 2 g_is_point
def g__law_is_point : Env → RS :=
  sSeq (sIf (cOr (cNot (cV (eIsiT ["list", "tuple"] (eV 0)))) (cB (e2 (asBl neD) (eN lenD (aCons (eV 0) (aNil))) (eC (.int 2))))) (sRet [] (eC (.bl false))) (sNil)) (sRet [] (eAnd (eCall d__law_is_integer (aCons (eF [] (e2 ixD (eV 0) (eC (.int 0)))) (aNil))) (eCall d__law_is_integer (aCons (eF [] (e2 ixD (eV 0) (eC (.int 1)))) (aNil)))))
def d__law_is_point : List D → RP := denP 1 1 g__law_is_point
def g_is_within : Env → RS :=
  sSeq (sIf (cNot (cV (eCall d_is_integer (aCons (eF [] (eV 0)) (aNil))))) (sRet [] (eC (.bl false))) (sNil)) (sRet [] (eAnd (eOr (e2 (asBl isD) (eV 1) (eC .non)) (e2 (asBl leD) (eV 1) (eV 0))) (eOr (e2 (asBl isD) (eV 2) (eC .non)) (e2 (asBl leD) (eV 0) (eV 2)))))
def d_is_within : List D → RP := denP 3 3 g_is_within
def g_law_b1 : Env → RS :=
  sSeq (sSet [] 3 (eCallM (d__law_value 3) (aCons (eV 1) (aCons (eC (.int 2)) (aNil))))) (sSeq (sIf (cB (e2 (asBl neD) (eN reprD (aCons (eLst (aCons (eF [] (eCall d_is_integer (aCons (eF [] (eV 3)) (aNil)))) (aCons (eF [] (eCallK 0 1 [0] d_is_integer aNil (aCons (eF [] (eV 3)) (aNil)))) (aNil)))) (aNil))) (eN reprD (aCons (e2 mulD (eLst (aCons (eF [] (eCall d__law_is_integer (aCons (eF [] (eV 3)) (aNil)))) (aNil))) (eC (.int 2))) (aNil))))) (sRet [] (eC (.bl false))) (sNil)) (sSeq (sIf (cB (e2 (asBl neD) (eN reprD (aCons (eLst (aCons (eF [] (eCall d_is_point (aCons (eF [] (eV 3)) (aNil)))) (aCons (eF [] (eCallK 0 1 [0] d_is_point aNil (aCons (eF [] (eV 3)) (aNil)))) (aNil)))) (aNil))) (eN reprD (aCons (e2 mulD (eLst (aCons (eF [] (eCall d__law_is_point (aCons (eF [] (eV 3)) (aNil)))) (aNil))) (eC (.int 2))) (aNil))))) (sRet [] (eC (.bl false))) (sNil)) (sSeq (sUnp (gL [gN 4, gN 5]) (eF [] (eLc [] [7] (iSeq [] (eTup (aCons (eC (.int 0)) (aCons (eC (.int 1)) (aNil))))) (gN 7) cYes (eCallM d__law_pick (aCons (eV 1) (aCons (eF [] (eLst (aCons (eC .non) (aCons (eF [] (eCallM d__law_integer (aCons (eV 1) (aNil)))) (aCons (eF [] (eIf (cV (eCall d__law_is_integer (aCons (eF [] (eV 3)) (aNil)))) (eV 3) (eC (.int 3)))) (aNil)))))) (aNil))))))) (sSeq (sSet [] 6 (eAnd (eCall d__law_is_integer (aCons (eF [] (eV 3)) (aNil))) (eAnd (eOr (e2 (asBl isD) (eV 4) (eC .non)) (e2 (asBl leD) (eV 4) (eV 3))) (eOr (e2 (asBl isD) (eV 5) (eC .non)) (e2 (asBl leD) (eV 3) (eV 5)))))) (sIf (cB (e2 (asBl neD) (eN reprD (aCons (eLst (aCons (eF [] (eCall d_is_within (aCons (eF [] (eV 3)) (aCons (eF [] (eV 4)) (aCons (eF [] (eV 5)) (aNil)))))) (aCons (eF [] (eCallK 0 3 [1, 2, 0] d_is_within aNil (aCons (eF [] (eV 5)) (aCons (eF [] (eV 3)) (aCons (eF [] (eV 4)) (aNil)))))) (aNil)))) (aNil))) (eN reprD (aCons (eLst (aCons (eF [] (eV 6)) (aCons (eF [] (eV 6)) (aNil)))) (aNil))))) (sRet [] (eC (.bl false))) (sNil))))))
def g_law : Env → RS :=
  sSeq (sSet [] 1 (eCall d__law_dune (aCons (eF [] (eV 0)) (aNil)))) (sSeq (sFor (iR rng1 (aCons (eC (.int 8)) (aNil))) (gN 2) (g_law_b1)) (sRet [] (eC (.bl true))))
def d_law : List D → RP := denP 1 8 g_law
/-! ### the walk -/
structure Txt (mg : Str → Option Value) : Prop where
  b_abs : mg "abs" = none
  b_all : mg "all" = none
  b_bool : mg "bool" = none
  b_int : mg "int" = none
  b_isinstance : mg "isinstance" = none
  b_len : mg "len" = none
  b_list : mg "list" = none
  b_range : mg "range" = none
  b_repr : mg "repr" = none
  b_tuple : mg "tuple" = none
section
variable {P : Program} {w : World} {K : PySem.W.Frag} {mg : Str → Option Value} {base : Heap}
theorem kb_is_integer_0 {fa : Addr} {fd : FuncData} (Fn : L2.Fun K "is_integer" "is_integer" s_is_integer fa fd) : KB K fd ["value"] 0 ["value"] [0] := kb_of Fn fun _ _ _ _ _ _ us ws h1 h2 => match us, ws, h1, h2 with | [], [_], _, _ => rfl
theorem kb_is_point_0 {fa : Addr} {fd : FuncData} (Fn : L2.Fun K "is_point" "is_point" s_is_point fa fd) : KB K fd ["value"] 0 ["value"] [0] := kb_of Fn fun _ _ _ _ _ _ us ws h1 h2 => match us, ws, h1, h2 with | [], [_], _, _ => rfl
theorem kb_is_within_0 {fa : Addr} {fd : FuncData} (Fn : L2.Fun K "is_within" "is_within" s_is_within fa fd) : KB K fd ["value", "least", "most"] 0 ["most", "value", "least"] [1, 2, 0] := kb_of Fn fun _ _ _ _ _ _ us ws h1 h2 => match us, ws, h1, h2 with | [], [_, _, _], _, _ => rfl
theorem sc__law_dune : FnScope ["_law_script", "_law_cell"] ["_law_script"] (defScope s__law_dune) := ⟨rfl, rfl, rfl, by decide +kernel, rfl, by decide +kernel, by decide +kernel⟩
theorem ok__law_dune (T : Txt mg) {f : Addr} {fd : FuncData} (Fn : L2.Fun K "_law_dune" "_law_dune" s__law_dune f fd) : FnG P w K mg base 1 f fd ["_law_script"] (SpP ⟨K, mg⟩ d__law_dune) := okPn Fn sc__law_dune rfl rfl fun cdv A outer s H E hr => by
  have cx := cok_b (P := P) (w := w) (K := K) (mg := mg) (base := base) (qual := "_law_dune") (f := f) (cdv := cdv) (A := A) (outer := outer) (s := s) (H := H) (E := E) sc__law_dune
  have tk := takes_b (P := P) (w := w) (K := K) (mg := mg) (base := base) (N := ["_law_script", "_law_cell"]) (qual := "_law_dune") (st := s__law_dune) (f := f) (cdv := cdv) (A := A) (outer := outer) (s := s) (H := H) (E := E)
  have S := sc__law_dune
  refine sss_one ?_
  refine ss_ret ?_
  refine se_lst ?_
  refine sa_cons ?_ ?_
  · refine se_f ?_
    refine se_lc cx ?_ (own := [("_law_cell", 1)]) (blk_of (by kernel_rfl))
    refine lc0 [1] ?_ (fun _ _ _ _ _ => pg_name (i := 1) S.nd rfl (Or.inl rfl)) (sg_name 1) (mono_name) (gw_name) ?_
    · refine si_any ?_
      refine se_sl ?_ ?_ ?_
      · exact se_var 0
      · exact so_none
      refine so_some ?_
      exact se_int
    intro _ _ _ _ _
    refine se_callTy call_int1 on_int T.b_int rfl ?_
    refine sa_cons ?_ ?_
    · exact se_var 1
    exact sa_nil
  refine sa_cons ?_ ?_
  · exact se_int
  refine sa_cons ?_ ?_
  · exact se_int
  exact sa_nil
theorem sc__law_drift : FnScope ["_law_dune_here", "_law_many", "_law_left", "_law_turn", "_law_cell", "_law_mixed"] ["_law_dune_here", "_law_many"] (defScope s__law_drift) := ⟨rfl, rfl, rfl, by decide +kernel, rfl, by decide +kernel, by decide +kernel⟩
theorem ok__law_drift (T : Txt mg) {f : Addr} {fd : FuncData} (Fn : L2.Fun K "_law_drift" "_law_drift" s__law_drift f fd) : FnG P w K mg base 1 f fd ["_law_dune_here", "_law_many"] (SpM ⟨K, mg⟩ d__law_drift) := okMn Fn sc__law_drift rfl rfl fun cdv A outer s H E hr => by
  have cx := cok_b (P := P) (w := w) (K := K) (mg := mg) (base := base) (qual := "_law_drift") (f := f) (cdv := cdv) (A := A) (outer := outer) (s := s) (H := H) (E := E) sc__law_drift
  have tk := takes_b (P := P) (w := w) (K := K) (mg := mg) (base := base) (N := ["_law_dune_here", "_law_many", "_law_left", "_law_turn", "_law_cell", "_law_mixed"]) (qual := "_law_drift") (st := s__law_drift) (f := f) (cdv := cdv) (A := A) (outer := outer) (s := s) (H := H) (E := E)
  have S := sc__law_drift
  refine sss_cons ?_ ?_
  · refine ss_if ?_ ?_ ?_
    · refine st_cmp op_gt o2_gt ?_ ?_
      · refine se_sub_ix ?_ ?_
        · exact se_var 0
        exact se_int
      exact se_int
    · refine sss_cons ?_ ?_
      · refine ss_set cx 2 ?_
        refine se_callTy call_int1 on_int T.b_int rfl ?_
        refine sa_cons ?_ ?_
        · refine se_sub_ix ?_ ?_
          · exact se_var 0
          exact se_int
        exact sa_nil
      refine sss_cons ?_ ?_
      · refine ss_ix (i := 0) ?_ ?_
        · refine se_fdiv ?_ ?_
          · exact se_var 2
          exact se_var 1
        exact se_int
      refine sss_one ?_
      refine ss_ret ?_
      refine se_mod ?_ ?_
      · refine se_callTy call_int1 on_int T.b_int rfl ?_
        refine sa_cons ?_ ?_
        · exact se_var 2
        exact sa_nil
      exact se_var 1
    exact sss_nil
  refine sss_cons ?_ ?_
  · refine ss_set cx 3 ?_
    refine se_sub_ix ?_ ?_
    · exact se_var 0
    exact se_int
  refine sss_cons ?_ ?_
  · refine ss_ix (i := 0) ?_ ?_
    · refine se_f ?_
      refine se_add ?_ ?_
      · exact se_var 3
      exact se_int
    exact se_int
  refine sss_cons ?_ ?_
  · refine ss_set cx 4 ?_
    refine se_add ?_ ?_
    · refine se_mul ?_ ?_
      · exact se_int
      exact se_var 3
    exact se_int
  refine sss_cons ?_ ?_
  · refine ss_if ?_ ?_ ?_
    · refine st_cmp (or_ne hr.r) o2_ne ?_ ?_
      · refine se_sub_ix ?_ ?_
        · exact se_var 0
        exact se_int
      refine se_lst ?_
      exact sa_nil
    · refine sss_one ?_
      refine ss_set cx 4 ?_
      refine se_sub_ix ?_ ?_
      · refine se_sub_ix ?_ ?_
        · exact se_var 0
        exact se_int
      refine se_mod ?_ ?_
      · refine se_callTy call_int1 on_int T.b_int rfl ?_
        refine sa_cons ?_ ?_
        · exact se_var 3
        exact sa_nil
      refine se_callB call_len on_len T.b_len rfl ?_
      refine sa_cons ?_ ?_
      · refine se_sub_ix ?_ ?_
        · exact se_var 0
        exact se_int
      exact sa_nil
    exact sss_nil
  refine sss_cons ?_ ?_
  · refine ss_if ?_ ?_ ?_
    · refine st_w ?_
      refine sw_and ?_ ?_
      · refine st_cmp op_lt o2_lt ?_ ?_
        · exact se_var 3
        refine se_callB call_len on_len T.b_len rfl ?_
        refine sa_cons ?_ ?_
        · refine se_sub_ix ?_ ?_
          · exact se_var 0
          exact se_int
        exact sa_nil
      refine sw_and1 ?_
      refine st_cmp op_ge o2_ge ?_ ?_
      · refine se_callB call_abs on_abs T.b_abs rfl ?_
        refine sa_cons ?_ ?_
        · exact se_var 4
        exact sa_nil
      refine se_pow ?_ ?_
      · exact se_int
      exact se_int
    · refine sss_cons ?_ ?_
      · refine ss_set cx 2 ?_
        refine se_add ?_ ?_
        · refine se_mul ?_ ?_
          · exact se_int
          refine se_sub ?_ ?_
          · refine se_callB call_abs on_abs T.b_abs rfl ?_
            refine sa_cons ?_ ?_
            · refine se_callTy call_int1 on_int T.b_int rfl ?_
              refine sa_cons ?_ ?_
              · exact se_var 4
              exact sa_nil
            exact sa_nil
          refine se_pow ?_ ?_
          · exact se_int
          exact se_int
        refine se_callTy call_int1 on_int T.b_int rfl ?_
        refine sa_cons ?_ ?_
        · refine se_cmp op_lt o2_lt ?_ ?_
          · exact se_var 4
          exact se_int
        exact sa_nil
      refine sss_cons ?_ ?_
      · refine ss_ix (i := 0) ?_ ?_
        · refine se_fdiv ?_ ?_
          · exact se_var 2
          exact se_var 1
        exact se_int
      refine sss_one ?_
      refine ss_ret ?_
      refine se_mod ?_ ?_
      · refine se_callTy call_int1 on_int T.b_int rfl ?_
        refine sa_cons ?_ ?_
        · exact se_var 2
        exact sa_nil
      exact se_var 1
    exact sss_nil
  refine sss_cons ?_ ?_
  · refine ss_set cx 5 ?_
    refine se_mod ?_ ?_
    · refine se_callTy call_int1 on_int T.b_int rfl ?_
      refine sa_cons ?_ ?_
      · refine se_pow ?_ ?_
        · refine se_add ?_ ?_
          · refine se_add ?_ ?_
            · refine se_mod ?_ ?_
              · refine se_callTy call_int1 on_int T.b_int rfl ?_
                refine sa_cons ?_ ?_
                · exact se_var 4
                exact sa_nil
              exact se_int
            refine se_mul ?_ ?_
            · exact se_int
            exact se_var 3
          exact se_int
        exact se_int
      exact sa_nil
    exact se_int
  refine sss_cons ?_ ?_
  · refine ss_set cx 5 ?_
    refine se_mod ?_ ?_
    · refine se_callTy call_int1 on_int T.b_int rfl ?_
      refine sa_cons ?_ ?_
      · refine se_pow ?_ ?_
        · refine se_add ?_ ?_
          · refine se_add ?_ ?_
            · refine se_mul ?_ ?_
              · exact se_var 5
              refine se_add ?_ ?_
              · refine se_mul ?_ ?_
                · exact se_int
                exact se_var 3
              exact se_int
            refine se_mul ?_ ?_
            · refine se_mul ?_ ?_
              · exact se_int
              exact se_var 3
            exact se_var 3
          exact se_int
        exact se_int
      exact sa_nil
    exact se_int
  refine sss_one ?_
  refine ss_ret ?_
  refine se_mod ?_ ?_
  · refine se_callTy call_int1 on_int T.b_int rfl ?_
    refine sa_cons ?_ ?_
    · refine se_fdiv ?_ ?_
      · exact se_var 5
      exact se_int
    exact sa_nil
  exact se_var 1
theorem sc__law_pick : FnScope ["_law_dune_here", "_law_some"] ["_law_dune_here", "_law_some"] (defScope s__law_pick) := ⟨rfl, rfl, rfl, by decide +kernel, rfl, by decide +kernel, by decide +kernel⟩
theorem ok__law_pick (T : Txt mg) (C__law_drift : Callee P w K mg base "_law_drift" "_law_drift" s__law_drift ["_law_dune_here", "_law_many"] 1 (SpM ⟨K, mg⟩ d__law_drift)) {f : Addr} {fd : FuncData} (Fn : L2.Fun K "_law_pick" "_law_pick" s__law_pick f fd) : FnG P w K mg base 2 f fd ["_law_dune_here", "_law_some"] (SpM ⟨K, mg⟩ d__law_pick) := okMn Fn sc__law_pick rfl rfl fun cdv A outer s H E hr => by
  have cx := cok_b (P := P) (w := w) (K := K) (mg := mg) (base := base) (qual := "_law_pick") (f := f) (cdv := cdv) (A := A) (outer := outer) (s := s) (H := H) (E := E) sc__law_pick
  have tk := takes_b (P := P) (w := w) (K := K) (mg := mg) (base := base) (N := ["_law_dune_here", "_law_some"]) (qual := "_law_pick") (st := s__law_pick) (f := f) (cdv := cdv) (A := A) (outer := outer) (s := s) (H := H) (E := E)
  have S := sc__law_pick
  have hk__law_drift : 1 ≤ 1 := by decide
  refine sss_one ?_
  refine ss_ret ?_
  refine se_sub_ix ?_ ?_
  · exact se_var 1
  refine se_callM C__law_drift hr tk ?_ (hk := hk__law_drift)
  refine sa_cons ?_ ?_
  · exact se_var 0
  refine sa_cons ?_ ?_
  · refine se_f ?_
    refine se_callB call_len on_len T.b_len rfl ?_
    refine sa_cons ?_ ?_
    · exact se_var 1
    exact sa_nil
  exact sa_nil
theorem sc__law_integer : FnScope ["_law_dune_here"] ["_law_dune_here"] (defScope s__law_integer) := ⟨rfl, rfl, rfl, by decide +kernel, rfl, by decide +kernel, by decide +kernel⟩
theorem ok__law_integer (T : Txt mg) (C__law_pick : Callee P w K mg base "_law_pick" "_law_pick" s__law_pick ["_law_dune_here", "_law_some"] 2 (SpM ⟨K, mg⟩ d__law_pick)) (C__law_drift : Callee P w K mg base "_law_drift" "_law_drift" s__law_drift ["_law_dune_here", "_law_many"] 1 (SpM ⟨K, mg⟩ d__law_drift)) {f : Addr} {fd : FuncData} (Fn : L2.Fun K "_law_integer" "_law_integer" s__law_integer f fd) : FnG P w K mg base 3 f fd ["_law_dune_here"] (SpM ⟨K, mg⟩ d__law_integer) := okMn Fn sc__law_integer rfl rfl fun cdv A outer s H E hr => by
  have cx := cok_b (P := P) (w := w) (K := K) (mg := mg) (base := base) (qual := "_law_integer") (f := f) (cdv := cdv) (A := A) (outer := outer) (s := s) (H := H) (E := E) sc__law_integer
  have tk := takes_b (P := P) (w := w) (K := K) (mg := mg) (base := base) (N := ["_law_dune_here"]) (qual := "_law_integer") (st := s__law_integer) (f := f) (cdv := cdv) (A := A) (outer := outer) (s := s) (H := H) (E := E)
  have S := sc__law_integer
  have hk__law_pick : 2 ≤ 2 := by decide
  have hk__law_drift : 1 ≤ 2 := by decide
  refine sss_one ?_
  refine ss_ret ?_
  refine se_callM C__law_pick hr tk ?_ (hk := hk__law_pick)
  refine sa_cons ?_ ?_
  · exact se_var 0
  refine sa_cons ?_ ?_
  · refine se_f ?_
    refine se_lst ?_
    refine sa_cons ?_ ?_
    · exact se_int
    refine sa_cons ?_ ?_
    · exact se_int
    refine sa_cons ?_ ?_
    · refine se_neg ?_
      exact se_int
    refine sa_cons ?_ ?_
    · exact se_int
    refine sa_cons ?_ ?_
    · refine se_f ?_
      refine se_callM C__law_drift hr tk ?_ (hk := hk__law_drift)
      refine sa_cons ?_ ?_
      · exact se_var 0
      refine sa_cons ?_ ?_
      · exact se_int
      exact sa_nil
    refine sa_cons ?_ ?_
    · refine se_neg ?_
      refine se_callM C__law_drift hr tk ?_ (hk := hk__law_drift)
      refine sa_cons ?_ ?_
      · exact se_var 0
      refine sa_cons ?_ ?_
      · refine se_pow ?_ ?_
        · exact se_int
        exact se_int
      exact sa_nil
    refine sa_cons ?_ ?_
    · refine se_f ?_
      refine se_add ?_ ?_
      · refine se_pow ?_ ?_
        · exact se_int
        exact se_int
      refine se_callM C__law_drift hr tk ?_ (hk := hk__law_drift)
      refine sa_cons ?_ ?_
      · exact se_var 0
      refine sa_cons ?_ ?_
      · exact se_int
      exact sa_nil
    refine sa_cons ?_ ?_
    · refine se_neg ?_
      refine se_pow ?_ ?_
      · exact se_int
      exact se_int
    exact sa_nil
  exact sa_nil
theorem sc__law_value : FnScope ["_law_dune_here", "_law_deep", "_law_way", "_law_some", "_law_turn"] ["_law_dune_here", "_law_deep"] (defScope s__law_value) := ⟨rfl, rfl, rfl, by decide +kernel, rfl, by decide +kernel, by decide +kernel⟩
theorem ok__law_value (T : Txt mg) (C__law_drift : Callee P w K mg base "_law_drift" "_law_drift" s__law_drift ["_law_dune_here", "_law_many"] 1 (SpM ⟨K, mg⟩ d__law_drift)) (C__law_integer : Callee P w K mg base "_law_integer" "_law_integer" s__law_integer ["_law_dune_here"] 3 (SpM ⟨K, mg⟩ d__law_integer)) (C__law_pick : Callee P w K mg base "_law_pick" "_law_pick" s__law_pick ["_law_dune_here", "_law_some"] 2 (SpM ⟨K, mg⟩ d__law_pick)) {f : Addr} {fd : FuncData} (Fn : L2.Fun K "_law_value" "_law_value" s__law_value f fd) (nm : mg "_law_value" = some (.ref f)) (bd : Binds K fd ["_law_dune_here", "_law_deep"] []) : ∀ k : Nat, FnG P w K mg base (3 + k) f fd ["_law_dune_here", "_law_deep"] (SpM ⟨K, mg⟩ (d__law_value k)) := fun k => by
  induction k with
  | zero => exact FnG.vain fun vs H Q E h => vainM h
  | succ k ih =>
    have C__law_value : Callee P w K mg base "_law_value" "_law_value" s__law_value ["_law_dune_here", "_law_deep"] (3 + k) (SpM ⟨K, mg⟩ (d__law_value k)) := ⟨f, fd, nm, Fn, bd, ih⟩
    have hk__law_value : 3 + k ≤ 3 + k := Nat.le_refl _
    have hk__law_drift : 1 ≤ 3 + k := by omega
    have hk__law_integer : 3 ≤ 3 + k := by omega
    have hk__law_pick : 2 ≤ 3 + k := by omega
    rw [d__law_value_s k, show 3 + (k + 1) = 3 + k + 1 from rfl]
    refine okMn Fn sc__law_value rfl rfl fun cdv A outer s H E hr => ?_
    have cx := cok_b (P := P) (w := w) (K := K) (mg := mg) (base := base) (qual := "_law_value") (f := f) (cdv := cdv) (A := A) (outer := outer) (s := s) (H := H) (E := E) sc__law_value
    have tk := takes_b (P := P) (w := w) (K := K) (mg := mg) (base := base) (N := ["_law_dune_here", "_law_deep", "_law_way", "_law_some", "_law_turn"]) (qual := "_law_value") (st := s__law_value) (f := f) (cdv := cdv) (A := A) (outer := outer) (s := s) (H := H) (E := E)
    have S := sc__law_value
    refine sss_cons ?_ ?_
    · refine ss_set cx 2 ?_
      refine se_callM C__law_drift hr tk ?_ (hk := hk__law_drift)
      refine sa_cons ?_ ?_
      · exact se_var 0
      refine sa_cons ?_ ?_
      · exact se_int
      exact sa_nil
    refine sss_cons ?_ ?_
    · refine ss_if ?_ ?_ ?_
      · refine st_w ?_
        refine sw_or ?_ ?_
        · refine st_cmp op_lt o2_lt ?_ ?_
          · exact se_var 2
          exact se_int
        refine sw_or1 ?_
        refine st_cmp (or_eq hr.r) o2_eq ?_ ?_
        · exact se_var 1
        exact se_int
      · refine sss_one ?_
        refine ss_ret ?_
        refine se_callM C__law_integer hr tk ?_ (hk := hk__law_integer)
        refine sa_cons ?_ ?_
        · exact se_var 0
        exact sa_nil
      exact sss_nil
    refine sss_cons ?_ ?_
    · refine ss_if ?_ ?_ ?_
      · refine st_cmp (or_eq hr.r) o2_eq ?_ ?_
        · exact se_var 2
        exact se_int
      · refine sss_one ?_
        refine ss_ret ?_
        refine se_callM C__law_pick hr tk ?_ (hk := hk__law_pick)
        refine sa_cons ?_ ?_
        · exact se_var 0
        refine sa_cons ?_ ?_
        · refine se_f ?_
          refine se_lst ?_
          refine sa_cons ?_ ?_
          · exact se_non
          refine sa_cons ?_ ?_
          · exact se_bl
          refine sa_cons ?_ ?_
          · exact se_bl
          refine sa_cons ?_ ?_
          · exact se_str
          refine sa_cons ?_ ?_
          · exact se_str
          refine sa_cons ?_ ?_
          · exact se_str
          refine sa_cons ?_ ?_
          · exact se_dict0
          refine sa_cons ?_ ?_
          · refine se_tup ?_
            exact sa_nil
          refine sa_cons ?_ ?_
          · refine se_f ?_
            refine se_lst ?_
            exact sa_nil
          refine sa_cons ?_ ?_
          · refine se_dict ?_
            refine kcs_cons (kc_of pe_int pe_int fun _ => .int) ?_
            exact kcs_nil
          refine sa_cons ?_ ?_
          · refine se_tup ?_
            refine sa_cons ?_ ?_
            · exact se_int
            refine sa_cons ?_ ?_
            · exact se_int
            refine sa_cons ?_ ?_
            · exact se_int
            exact sa_nil
          exact sa_nil
        exact sa_nil
      exact sss_nil
    refine sss_cons ?_ ?_
    · refine ss_setLc cx 3 ?_ (own := [("_law_turn", 4)]) (blk_of (by kernel_rfl)) ?_
      · refine lc0 [4] ?_ (fun _ _ _ _ _ => pg_name (i := 4) S.nd rfl (Or.inl rfl)) (sg_name 4) (mono_name) (gw_name) ?_
        · refine si_range1 T.b_range ?_
          refine sa_cons ?_ ?_
          · refine se_callM C__law_pick hr tk ?_ (hk := hk__law_pick)
            refine sa_cons ?_ ?_
            · exact se_var 0
            refine sa_cons ?_ ?_
            · refine se_f ?_
              refine se_lst ?_
              refine sa_cons ?_ ?_
              · exact se_int
              refine sa_cons ?_ ?_
              · exact se_int
              refine sa_cons ?_ ?_
              · exact se_int
              refine sa_cons ?_ ?_
              · exact se_int
              refine sa_cons ?_ ?_
              · exact se_int
              exact sa_nil
            exact sa_nil
          exact sa_nil
        intro _ _ _ _ _
        refine se_callM C__law_value hr takes_wf ?_ (hk := hk__law_value)
        refine sa_cons ?_ ?_
        · exact se_var 0
        refine sa_cons ?_ ?_
        · refine se_sub ?_ ?_
          · exact se_var 1
          exact se_int
        exact sa_nil
      exact sw_true rfl rfl rfl rfl
    refine sss_one ?_
    refine ss_ret ?_
    refine se_if ?_ ?_ ?_
    · refine st_cmp op_lt o2_lt ?_ ?_
      · exact se_var 2
      exact se_int
    · exact se_var 3
    refine se_callTy call_tuple_of on_tuple T.b_tuple rfl ?_
    refine sa_cons ?_ ?_
    · exact se_var 3
    exact sa_nil
theorem sc_is_integer : FnScope ["value"] ["value"] (defScope s_is_integer) := ⟨rfl, rfl, rfl, by decide +kernel, rfl, by decide +kernel, by decide +kernel⟩
theorem ok_is_integer (T : Txt mg) {f : Addr} {fd : FuncData} (Fn : L2.Fun K "is_integer" "is_integer" s_is_integer f fd) : FnG P w K mg base 1 f fd ["value"] (SpP ⟨K, mg⟩ d_is_integer) := okPn Fn sc_is_integer rfl rfl fun cdv A outer s H E hr => by
  have cx := cok_b (P := P) (w := w) (K := K) (mg := mg) (base := base) (qual := "is_integer") (f := f) (cdv := cdv) (A := A) (outer := outer) (s := s) (H := H) (E := E) sc_is_integer
  have tk := takes_b (P := P) (w := w) (K := K) (mg := mg) (base := base) (N := ["value"]) (qual := "is_integer") (st := s_is_integer) (f := f) (cdv := cdv) (A := A) (outer := outer) (s := s) (H := H) (E := E)
  have S := sc_is_integer
  refine sss_one ?_
  refine ss_ret ?_
  refine se_and ?_ ?_
  · refine se_callB call_isi on_isi T.b_isinstance rfl ?_
    refine sa_cons ?_ ?_
    · exact se_var 0
    refine sa_cons ?_ ?_
    · exact se_ty T.b_int
    exact sa_nil
  refine se_and1 ?_
  refine se_not ?_
  refine se_callB call_isi on_isi T.b_isinstance rfl ?_
  refine sa_cons ?_ ?_
  · exact se_var 0
  refine sa_cons ?_ ?_
  · exact se_ty T.b_bool
  exact sa_nil
theorem sc__law_is_integer : FnScope ["_law_value_here"] ["_law_value_here"] (defScope s__law_is_integer) := ⟨rfl, rfl, rfl, by decide +kernel, rfl, by decide +kernel, by decide +kernel⟩
theorem ok__law_is_integer (T : Txt mg) {f : Addr} {fd : FuncData} (Fn : L2.Fun K "_law_is_integer" "_law_is_integer" s__law_is_integer f fd) : FnG P w K mg base 1 f fd ["_law_value_here"] (SpP ⟨K, mg⟩ d__law_is_integer) := okPn Fn sc__law_is_integer rfl rfl fun cdv A outer s H E hr => by
  have cx := cok_b (P := P) (w := w) (K := K) (mg := mg) (base := base) (qual := "_law_is_integer") (f := f) (cdv := cdv) (A := A) (outer := outer) (s := s) (H := H) (E := E) sc__law_is_integer
  have tk := takes_b (P := P) (w := w) (K := K) (mg := mg) (base := base) (N := ["_law_value_here"]) (qual := "_law_is_integer") (st := s__law_is_integer) (f := f) (cdv := cdv) (A := A) (outer := outer) (s := s) (H := H) (E := E)
  have S := sc__law_is_integer
  refine sss_one ?_
  refine ss_ret ?_
  refine se_and ?_ ?_
  · refine se_callB call_isi on_isi T.b_isinstance rfl ?_
    refine sa_cons ?_ ?_
    · exact se_var 0
    refine sa_cons ?_ ?_
    · exact se_ty T.b_int
    exact sa_nil
  refine se_and1 ?_
  refine se_not ?_
  refine se_callB call_isi on_isi T.b_isinstance rfl ?_
  refine sa_cons ?_ ?_
  · exact se_var 0
  refine sa_cons ?_ ?_
  · exact se_ty T.b_bool
  exact sa_nil
theorem sc_is_point : FnScope ["value", "each"] ["value"] (defScope s_is_point) := ⟨rfl, rfl, rfl, by decide +kernel, rfl, by decide +kernel, by decide +kernel⟩
theorem ok_is_point (T : Txt mg) (C_is_integer : Callee P w K mg base "is_integer" "is_integer" s_is_integer ["value"] 1 (SpP ⟨K, mg⟩ d_is_integer)) {f : Addr} {fd : FuncData} (Fn : L2.Fun K "is_point" "is_point" s_is_point f fd) : FnG P w K mg base 2 f fd ["value"] (SpP ⟨K, mg⟩ d_is_point) := okPn Fn sc_is_point rfl rfl fun cdv A outer s H E hr => by
  have cx := cok_b (P := P) (w := w) (K := K) (mg := mg) (base := base) (qual := "is_point") (f := f) (cdv := cdv) (A := A) (outer := outer) (s := s) (H := H) (E := E) sc_is_point
  have tk := takes_b (P := P) (w := w) (K := K) (mg := mg) (base := base) (N := ["value", "each"]) (qual := "is_point") (st := s_is_point) (f := f) (cdv := cdv) (A := A) (outer := outer) (s := s) (H := H) (E := E)
  have S := sc_is_point
  have hk_is_integer : 1 ≤ 1 := by decide
  refine sss_one ?_
  refine ss_ret ?_
  refine se_and ?_ ?_
  · refine se_isiT rfl T.b_isinstance ?_ ?_
    · exact se_var 0
    refine pa_tys (pe_ty T.b_list) ?_
    refine pa_tys (pe_ty T.b_tuple) ?_
    exact pa_tys0
  refine se_and ?_ ?_
  · refine se_cmp (or_eq hr.r) o2_eq ?_ ?_
    · refine se_callB call_len on_len T.b_len rfl ?_
      refine sa_cons ?_ ?_
      · exact se_var 0
      exact sa_nil
    exact se_int
  refine se_and1 ?_
  refine se_callB (cr_all rfl) on_all T.b_all rfl ?_
  refine sa_cons ?_ ?_
  · refine se_lc cx ?_ (own := [("each", 1)]) (blk_of (by kernel_rfl))
    refine lc0 [1] ?_ (fun _ _ _ _ _ => pg_name (i := 1) S.nd rfl (Or.inl rfl)) (sg_name 1) (mono_name) (gw_name) ?_
    · refine si_any ?_
      exact se_var 0
    intro _ _ _ _ _
    refine se_call C_is_integer hr takes_wf ?_ (hk := hk_is_integer)
    refine sa_cons ?_ ?_
    · refine se_f ?_
      exact se_var 1
    exact sa_nil
  exact sa_nil
theorem sc__law_is_point : FnScope ["_law_value_here"] ["_law_value_here"] (defScope s__law_is_point) := ⟨rfl, rfl, rfl, by decide +kernel, rfl, by decide +kernel, by decide +kernel⟩
theorem ok__law_is_point (T : Txt mg) (C__law_is_integer : Callee P w K mg base "_law_is_integer" "_law_is_integer" s__law_is_integer ["_law_value_here"] 1 (SpP ⟨K, mg⟩ d__law_is_integer)) {f : Addr} {fd : FuncData} (Fn : L2.Fun K "_law_is_point" "_law_is_point" s__law_is_point f fd) : FnG P w K mg base 2 f fd ["_law_value_here"] (SpP ⟨K, mg⟩ d__law_is_point) := okPn Fn sc__law_is_point rfl rfl fun cdv A outer s H E hr => by
  have cx := cok_b (P := P) (w := w) (K := K) (mg := mg) (base := base) (qual := "_law_is_point") (f := f) (cdv := cdv) (A := A) (outer := outer) (s := s) (H := H) (E := E) sc__law_is_point
  have tk := takes_b (P := P) (w := w) (K := K) (mg := mg) (base := base) (N := ["_law_value_here"]) (qual := "_law_is_point") (st := s__law_is_point) (f := f) (cdv := cdv) (A := A) (outer := outer) (s := s) (H := H) (E := E)
  have S := sc__law_is_point
  have hk__law_is_integer : 1 ≤ 1 := by decide
  refine sss_cons ?_ ?_
  · refine ss_if ?_ ?_ ?_
    · refine st_w ?_
      refine sw_or ?_ ?_
      · refine st_not ?_
        refine st_v ?_
        refine se_isiT rfl T.b_isinstance ?_ ?_
        · exact se_var 0
        refine pa_tys (pe_ty T.b_list) ?_
        refine pa_tys (pe_ty T.b_tuple) ?_
        exact pa_tys0
      refine sw_or1 ?_
      refine st_cmp (or_ne hr.r) o2_ne ?_ ?_
      · refine se_callB call_len on_len T.b_len rfl ?_
        refine sa_cons ?_ ?_
        · exact se_var 0
        exact sa_nil
      exact se_int
    · refine sss_one ?_
      refine ss_ret ?_
      exact se_bl
    exact sss_nil
  refine sss_one ?_
  refine ss_ret ?_
  refine se_and ?_ ?_
  · refine se_call C__law_is_integer hr tk ?_ (hk := hk__law_is_integer)
    refine sa_cons ?_ ?_
    · refine se_f ?_
      refine se_sub_ix ?_ ?_
      · exact se_var 0
      exact se_int
    exact sa_nil
  refine se_and1 ?_
  refine se_call C__law_is_integer hr tk ?_ (hk := hk__law_is_integer)
  refine sa_cons ?_ ?_
  · refine se_f ?_
    refine se_sub_ix ?_ ?_
    · exact se_var 0
    exact se_int
  exact sa_nil
theorem sc_is_within : FnScope ["value", "least", "most"] ["value", "least", "most"] (defScope s_is_within) := ⟨rfl, rfl, rfl, by decide +kernel, rfl, by decide +kernel, by decide +kernel⟩
theorem ok_is_within (T : Txt mg) (C_is_integer : Callee P w K mg base "is_integer" "is_integer" s_is_integer ["value"] 1 (SpP ⟨K, mg⟩ d_is_integer)) {f : Addr} {fd : FuncData} (Fn : L2.Fun K "is_within" "is_within" s_is_within f fd) : FnG P w K mg base 2 f fd ["value", "least", "most"] (SpP ⟨K, mg⟩ d_is_within) := okPn Fn sc_is_within rfl rfl fun cdv A outer s H E hr => by
  have cx := cok_b (P := P) (w := w) (K := K) (mg := mg) (base := base) (qual := "is_within") (f := f) (cdv := cdv) (A := A) (outer := outer) (s := s) (H := H) (E := E) sc_is_within
  have tk := takes_b (P := P) (w := w) (K := K) (mg := mg) (base := base) (N := ["value", "least", "most"]) (qual := "is_within") (st := s_is_within) (f := f) (cdv := cdv) (A := A) (outer := outer) (s := s) (H := H) (E := E)
  have S := sc_is_within
  have hk_is_integer : 1 ≤ 1 := by decide
  refine sss_cons ?_ ?_
  · refine ss_if ?_ ?_ ?_
    · refine st_not ?_
      refine st_v ?_
      refine se_call C_is_integer hr tk ?_ (hk := hk_is_integer)
      refine sa_cons ?_ ?_
      · refine se_f ?_
        exact se_var 0
      exact sa_nil
    · refine sss_one ?_
      refine ss_ret ?_
      exact se_bl
    exact sss_nil
  refine sss_one ?_
  refine ss_ret ?_
  refine se_and ?_ ?_
  · refine se_or ?_ ?_
    · refine se_cmp or_is o2_is ?_ ?_
      · exact se_var 1
      exact se_non
    refine se_and1 ?_
    refine se_cmp op_le o2_le ?_ ?_
    · exact se_var 1
    exact se_var 0
  refine se_and1 ?_
  refine se_or ?_ ?_
  · refine se_cmp or_is o2_is ?_ ?_
    · exact se_var 2
    exact se_non
  refine se_and1 ?_
  refine se_cmp op_le o2_le ?_ ?_
  · exact se_var 0
  exact se_var 2
theorem sc_law : FnScope ["_law_script", "_law_dune_here", "_law_turn", "_law_value_here", "_law_least", "_law_most", "_law_due", "_law_side"] ["_law_script"] (defScope s_law) := ⟨rfl, rfl, rfl, by decide +kernel, rfl, by decide +kernel, by decide +kernel⟩
theorem ok_law (T : Txt mg) (C__law_dune : Callee P w K mg base "_law_dune" "_law_dune" s__law_dune ["_law_script"] 1 (SpP ⟨K, mg⟩ d__law_dune)) (C__law_value : Callee P w K mg base "_law_value" "_law_value" s__law_value ["_law_dune_here", "_law_deep"] 6 (SpM ⟨K, mg⟩ (d__law_value 3))) (C_is_integer : Callee P w K mg base "is_integer" "is_integer" s_is_integer ["value"] 1 (SpP ⟨K, mg⟩ d_is_integer)) (C__law_is_integer : Callee P w K mg base "_law_is_integer" "_law_is_integer" s__law_is_integer ["_law_value_here"] 1 (SpP ⟨K, mg⟩ d__law_is_integer)) (C_is_point : Callee P w K mg base "is_point" "is_point" s_is_point ["value"] 2 (SpP ⟨K, mg⟩ d_is_point)) (C__law_is_point : Callee P w K mg base "_law_is_point" "_law_is_point" s__law_is_point ["_law_value_here"] 2 (SpP ⟨K, mg⟩ d__law_is_point)) (C__law_pick : Callee P w K mg base "_law_pick" "_law_pick" s__law_pick ["_law_dune_here", "_law_some"] 2 (SpM ⟨K, mg⟩ d__law_pick)) (C__law_integer : Callee P w K mg base "_law_integer" "_law_integer" s__law_integer ["_law_dune_here"] 3 (SpM ⟨K, mg⟩ d__law_integer)) (C_is_within : Callee P w K mg base "is_within" "is_within" s_is_within ["value", "least", "most"] 2 (SpP ⟨K, mg⟩ d_is_within)) {f : Addr} {fd : FuncData} (Fn : L2.Fun K "law" "law" s_law f fd) : FnG P w K mg base 7 f fd ["_law_script"] (SpP ⟨K, mg⟩ d_law) := okPn Fn sc_law rfl rfl fun cdv A outer s H E hr => by
  have cx := cok_b (P := P) (w := w) (K := K) (mg := mg) (base := base) (qual := "law") (f := f) (cdv := cdv) (A := A) (outer := outer) (s := s) (H := H) (E := E) sc_law
  have tk := takes_b (P := P) (w := w) (K := K) (mg := mg) (base := base) (N := ["_law_script", "_law_dune_here", "_law_turn", "_law_value_here", "_law_least", "_law_most", "_law_due", "_law_side"]) (qual := "law") (st := s_law) (f := f) (cdv := cdv) (A := A) (outer := outer) (s := s) (H := H) (E := E)
  have S := sc_law
  have hk__law_dune : 1 ≤ 6 := by decide
  have hk__law_value : 6 ≤ 6 := by decide
  have hk_is_integer : 1 ≤ 6 := by decide
  have hk__law_is_integer : 1 ≤ 6 := by decide
  have hk_is_point : 2 ≤ 6 := by decide
  have hk__law_is_point : 2 ≤ 6 := by decide
  have hk__law_pick : 2 ≤ 6 := by decide
  have hk__law_integer : 3 ≤ 6 := by decide
  have hk_is_within : 2 ≤ 6 := by decide
  refine sss_cons ?_ ?_
  · refine ss_set cx 1 ?_
    refine se_call C__law_dune hr tk ?_ (hk := hk__law_dune)
    refine sa_cons ?_ ?_
    · refine se_f ?_
      exact se_var 0
    exact sa_nil
  refine sss_cons ?_ ?_
  · refine ss_for cx ?_ (pg_name (i := 2) S.nd rfl (Or.inl rfl)) (sg_name 2) ?_
    · refine si_range1 T.b_range ?_
      refine sa_cons ?_ ?_
      · exact se_int
      exact sa_nil
    refine sss_cons ?_ ?_
    · refine ss_set cx 3 ?_
      refine se_callM C__law_value hr tk ?_ (hk := hk__law_value)
      refine sa_cons ?_ ?_
      · exact se_var 1
      refine sa_cons ?_ ?_
      · exact se_int
      exact sa_nil
    refine sss_cons ?_ ?_
    · refine ss_if ?_ ?_ ?_
      · refine st_cmp (or_ne hr.r) o2_ne ?_ ?_
        · refine se_callB (call_repr hr) on_repr T.b_repr rfl ?_
          refine sa_cons ?_ ?_
          · refine se_lst ?_
            refine sa_cons ?_ ?_
            · refine se_f ?_
              refine se_call C_is_integer hr tk ?_ (hk := hk_is_integer)
              refine sa_cons ?_ ?_
              · refine se_f ?_
                exact se_var 3
              exact sa_nil
            refine sa_cons ?_ ?_
            · refine se_f ?_
              refine se_callK0 C_is_integer (fun _ _ Fn => kb_is_integer_0 Fn) hr tk ?_ (hk := hk_is_integer)
              refine sk_cons ?_ ?_
              · refine se_f ?_
                exact se_var 3
              exact sk_nil
            exact sa_nil
          exact sa_nil
        refine se_callB (call_repr hr) on_repr T.b_repr rfl ?_
        refine sa_cons ?_ ?_
        · refine se_mul ?_ ?_
          · refine se_lst ?_
            refine sa_cons ?_ ?_
            · refine se_f ?_
              refine se_call C__law_is_integer hr tk ?_ (hk := hk__law_is_integer)
              refine sa_cons ?_ ?_
              · refine se_f ?_
                exact se_var 3
              exact sa_nil
            exact sa_nil
          exact se_int
        exact sa_nil
      · refine sss_one ?_
        refine ss_ret ?_
        exact se_bl
      exact sss_nil
    refine sss_cons ?_ ?_
    · refine ss_if ?_ ?_ ?_
      · refine st_cmp (or_ne hr.r) o2_ne ?_ ?_
        · refine se_callB (call_repr hr) on_repr T.b_repr rfl ?_
          refine sa_cons ?_ ?_
          · refine se_lst ?_
            refine sa_cons ?_ ?_
            · refine se_f ?_
              refine se_call C_is_point hr tk ?_ (hk := hk_is_point)
              refine sa_cons ?_ ?_
              · refine se_f ?_
                exact se_var 3
              exact sa_nil
            refine sa_cons ?_ ?_
            · refine se_f ?_
              refine se_callK0 C_is_point (fun _ _ Fn => kb_is_point_0 Fn) hr tk ?_ (hk := hk_is_point)
              refine sk_cons ?_ ?_
              · refine se_f ?_
                exact se_var 3
              exact sk_nil
            exact sa_nil
          exact sa_nil
        refine se_callB (call_repr hr) on_repr T.b_repr rfl ?_
        refine sa_cons ?_ ?_
        · refine se_mul ?_ ?_
          · refine se_lst ?_
            refine sa_cons ?_ ?_
            · refine se_f ?_
              refine se_call C__law_is_point hr tk ?_ (hk := hk__law_is_point)
              refine sa_cons ?_ ?_
              · refine se_f ?_
                exact se_var 3
              exact sa_nil
            exact sa_nil
          exact se_int
        exact sa_nil
      · refine sss_one ?_
        refine ss_ret ?_
        exact se_bl
      exact sss_nil
    refine sss_cons ?_ ?_
    · refine ss_unp ?_ (pg_lst rfl (pgs_cons (pg_name (i := 4) S.nd rfl (Or.inl rfl)) (pgs_cons (pg_name (i := 5) S.nd rfl (Or.inl rfl)) (pgs_nil)))) (sg_lst (sgs_cons (sg_name 4) (sgs_cons (sg_name 5) (sgs_nil))))
      refine se_f ?_
      refine se_lc cx ?_ (own := [("_law_side", 7)]) (blk_of (by kernel_rfl))
      refine lc0 [7] ?_ (fun _ _ _ _ _ => pg_name (i := 7) S.nd rfl (Or.inl rfl)) (sg_name 7) (mono_name) (gw_name) ?_
      · refine si_any ?_
        refine se_tup ?_
        refine sa_cons ?_ ?_
        · exact se_int
        refine sa_cons ?_ ?_
        · exact se_int
        exact sa_nil
      intro _ _ _ _ _
      refine se_callM C__law_pick hr takes_wf ?_ (hk := hk__law_pick)
      refine sa_cons ?_ ?_
      · exact se_var 1
      refine sa_cons ?_ ?_
      · refine se_f ?_
        refine se_lst ?_
        refine sa_cons ?_ ?_
        · exact se_non
        refine sa_cons ?_ ?_
        · refine se_f ?_
          refine se_callM C__law_integer hr takes_wf ?_ (hk := hk__law_integer)
          refine sa_cons ?_ ?_
          · exact se_var 1
          exact sa_nil
        refine sa_cons ?_ ?_
        · refine se_f ?_
          refine se_if ?_ ?_ ?_
          · refine st_v ?_
            refine se_call C__law_is_integer hr takes_wf ?_ (hk := hk__law_is_integer)
            refine sa_cons ?_ ?_
            · refine se_f ?_
              exact se_var 3
            exact sa_nil
          · exact se_var 3
          exact se_int
        exact sa_nil
      exact sa_nil
    refine sss_cons ?_ ?_
    · refine ss_set cx 6 ?_
      refine se_and ?_ ?_
      · refine se_call C__law_is_integer hr tk ?_ (hk := hk__law_is_integer)
        refine sa_cons ?_ ?_
        · refine se_f ?_
          exact se_var 3
        exact sa_nil
      refine se_and ?_ ?_
      · refine se_or ?_ ?_
        · refine se_cmp or_is o2_is ?_ ?_
          · exact se_var 4
          exact se_non
        refine se_and1 ?_
        refine se_cmp op_le o2_le ?_ ?_
        · exact se_var 4
        exact se_var 3
      refine se_and1 ?_
      refine se_or ?_ ?_
      · refine se_cmp or_is o2_is ?_ ?_
        · exact se_var 5
        exact se_non
      refine se_and1 ?_
      refine se_cmp op_le o2_le ?_ ?_
      · exact se_var 3
      exact se_var 5
    refine sss_one ?_
    refine ss_if ?_ ?_ ?_
    · refine st_cmp (or_ne hr.r) o2_ne ?_ ?_
      · refine se_callB (call_repr hr) on_repr T.b_repr rfl ?_
        refine sa_cons ?_ ?_
        · refine se_lst ?_
          refine sa_cons ?_ ?_
          · refine se_f ?_
            refine se_call C_is_within hr tk ?_ (hk := hk_is_within)
            refine sa_cons ?_ ?_
            · refine se_f ?_
              exact se_var 3
            refine sa_cons ?_ ?_
            · refine se_f ?_
              exact se_var 4
            refine sa_cons ?_ ?_
            · refine se_f ?_
              exact se_var 5
            exact sa_nil
          refine sa_cons ?_ ?_
          · refine se_f ?_
            refine se_callK0 C_is_within (fun _ _ Fn => kb_is_within_0 Fn) hr tk ?_ (hk := hk_is_within)
            refine sk_cons ?_ ?_
            · refine se_f ?_
              exact se_var 5
            refine sk_cons ?_ ?_
            · refine se_f ?_
              exact se_var 3
            refine sk_cons ?_ ?_
            · refine se_f ?_
              exact se_var 4
            exact sk_nil
          exact sa_nil
        exact sa_nil
      refine se_callB (call_repr hr) on_repr T.b_repr rfl ?_
      refine sa_cons ?_ ?_
      · refine se_lst ?_
        refine sa_cons ?_ ?_
        · refine se_f ?_
          exact se_var 6
        refine sa_cons ?_ ?_
        · refine se_f ?_
          exact se_var 6
        exact sa_nil
      exact sa_nil
    · refine sss_one ?_
      refine ss_ret ?_
      exact se_bl
    exact sss_nil
  refine sss_one ?_
  refine ss_ret ?_
  exact se_bl
end
/-! ### what the top has written -/
theorem all_mk {l : PySem.W.OpenLaw} {w : World} {K : PySem.W.Frag} {h : Heap} {mg : Str → Option Value} {fa : Addr} {f0 f1 f2 f3 f4 f5 f6 f7 f8 f9 f10 : Addr} (X : K.In h) (G : h.Ns mainGlobals mg) (hfa : mg "law" = some (.ref fa))
    {od0 an0 od1 an1 od2 an2 od3 an3 od4 an4 od5 an5 od6 an6 od7 an7 od8 an8 od9 an9 od10 an10 : Option Addr} {sl0 sl1 sl2 sl3 sl4 sl5 sl6 sl7 sl8 sl9 sl10 : Array (Option Value)} {oc0 kV0 dc0 pm0 cd0 ct0 oc1 kV1 dc1 pm1 cd1 ct1 oc2 kV2 dc2 pm2 cd2 ct2 oc3 kV3 dc3 pm3 cd3 ct3 oc4 kV4 dc4 pm4 cd4 ct4 oc5 kV5 dc5 pm5 cd5 ct5 oc6 kV6 dc6 pm6 cd6 ct6 oc7 kV7 dc7 pm7 cd7 ct7 oc8 kV8 dc8 pm8 cd8 ct8 oc9 kV9 dc9 pm9 cd9 ct9 oc10 kV10 dc10 pm10 cd10 ct10 : Value}
    (a0 : PySem.W.nsIn K mainGlobals "_law_dune" = some (some (.ref f0))) (l0 : K.lookup f0 = some ⟨oc0, od0, .func (PySem.W.fnOf "_law_dune" "_law_dune" (defArgs s__law_dune) (defBody s__law_dune) (defScope s__law_dune) .none kV0 dc0 pm0 an0 cd0 ct0), sl0⟩) (c0 : PySem.W.codeIn K cd0 "_law_dune" = true) (k0 : PySem.W.keepIn K (.ref f0) = true)
    (a1 : PySem.W.nsIn K mainGlobals "_law_drift" = some (some (.ref f1))) (l1 : K.lookup f1 = some ⟨oc1, od1, .func (PySem.W.fnOf "_law_drift" "_law_drift" (defArgs s__law_drift) (defBody s__law_drift) (defScope s__law_drift) .none kV1 dc1 pm1 an1 cd1 ct1), sl1⟩) (c1 : PySem.W.codeIn K cd1 "_law_drift" = true) (k1 : PySem.W.keepIn K (.ref f1) = true)
    (a2 : PySem.W.nsIn K mainGlobals "_law_pick" = some (some (.ref f2))) (l2 : K.lookup f2 = some ⟨oc2, od2, .func (PySem.W.fnOf "_law_pick" "_law_pick" (defArgs s__law_pick) (defBody s__law_pick) (defScope s__law_pick) .none kV2 dc2 pm2 an2 cd2 ct2), sl2⟩) (c2 : PySem.W.codeIn K cd2 "_law_pick" = true) (k2 : PySem.W.keepIn K (.ref f2) = true)
    (a3 : PySem.W.nsIn K mainGlobals "_law_integer" = some (some (.ref f3))) (l3 : K.lookup f3 = some ⟨oc3, od3, .func (PySem.W.fnOf "_law_integer" "_law_integer" (defArgs s__law_integer) (defBody s__law_integer) (defScope s__law_integer) .none kV3 dc3 pm3 an3 cd3 ct3), sl3⟩) (c3 : PySem.W.codeIn K cd3 "_law_integer" = true) (k3 : PySem.W.keepIn K (.ref f3) = true)
    (a4 : PySem.W.nsIn K mainGlobals "_law_value" = some (some (.ref f4))) (l4 : K.lookup f4 = some ⟨oc4, od4, .func (PySem.W.fnOf "_law_value" "_law_value" (defArgs s__law_value) (defBody s__law_value) (defScope s__law_value) .none kV4 dc4 pm4 an4 cd4 ct4), sl4⟩) (c4 : PySem.W.codeIn K cd4 "_law_value" = true) (k4 : PySem.W.keepIn K (.ref f4) = true)
    (a5 : PySem.W.nsIn K mainGlobals "is_integer" = some (some (.ref f5))) (l5 : K.lookup f5 = some ⟨oc5, od5, .func (PySem.W.fnOf "is_integer" "is_integer" (defArgs s_is_integer) (defBody s_is_integer) (defScope s_is_integer) .none kV5 dc5 pm5 an5 cd5 ct5), sl5⟩) (c5 : PySem.W.codeIn K cd5 "is_integer" = true) (k5 : PySem.W.keepIn K (.ref f5) = true)
    (a6 : PySem.W.nsIn K mainGlobals "_law_is_integer" = some (some (.ref f6))) (l6 : K.lookup f6 = some ⟨oc6, od6, .func (PySem.W.fnOf "_law_is_integer" "_law_is_integer" (defArgs s__law_is_integer) (defBody s__law_is_integer) (defScope s__law_is_integer) .none kV6 dc6 pm6 an6 cd6 ct6), sl6⟩) (c6 : PySem.W.codeIn K cd6 "_law_is_integer" = true) (k6 : PySem.W.keepIn K (.ref f6) = true)
    (a7 : PySem.W.nsIn K mainGlobals "is_point" = some (some (.ref f7))) (l7 : K.lookup f7 = some ⟨oc7, od7, .func (PySem.W.fnOf "is_point" "is_point" (defArgs s_is_point) (defBody s_is_point) (defScope s_is_point) .none kV7 dc7 pm7 an7 cd7 ct7), sl7⟩) (c7 : PySem.W.codeIn K cd7 "is_point" = true) (k7 : PySem.W.keepIn K (.ref f7) = true)
    (a8 : PySem.W.nsIn K mainGlobals "_law_is_point" = some (some (.ref f8))) (l8 : K.lookup f8 = some ⟨oc8, od8, .func (PySem.W.fnOf "_law_is_point" "_law_is_point" (defArgs s__law_is_point) (defBody s__law_is_point) (defScope s__law_is_point) .none kV8 dc8 pm8 an8 cd8 ct8), sl8⟩) (c8 : PySem.W.codeIn K cd8 "_law_is_point" = true) (k8 : PySem.W.keepIn K (.ref f8) = true)
    (a9 : PySem.W.nsIn K mainGlobals "is_within" = some (some (.ref f9))) (l9 : K.lookup f9 = some ⟨oc9, od9, .func (PySem.W.fnOf "is_within" "is_within" (defArgs s_is_within) (defBody s_is_within) (defScope s_is_within) .none kV9 dc9 pm9 an9 cd9 ct9), sl9⟩) (c9 : PySem.W.codeIn K cd9 "is_within" = true) (k9 : PySem.W.keepIn K (.ref f9) = true)
    (a10 : PySem.W.nsIn K mainGlobals "law" = some (some (.ref f10))) (l10 : K.lookup f10 = some ⟨oc10, od10, .func (PySem.W.fnOf "law" "law" (defArgs s_law) (defBody s_law) (defScope s_law) .none kV10 dc10 pm10 an10 cd10 ct10), sl10⟩) (c10 : PySem.W.codeIn K cd10 "law" = true) (k10 : PySem.W.keepIn K (.ref f10) = true)
    (z_abs : PySem.W.nsIn K mainGlobals "abs" = some none)
    (z_all : PySem.W.nsIn K mainGlobals "all" = some none)
    (z_bool : PySem.W.nsIn K mainGlobals "bool" = some none)
    (z_int : PySem.W.nsIn K mainGlobals "int" = some none)
    (z_isinstance : PySem.W.nsIn K mainGlobals "isinstance" = some none)
    (z_len : PySem.W.nsIn K mainGlobals "len" = some none)
    (z_list : PySem.W.nsIn K mainGlobals "list" = some none)
    (z_range : PySem.W.nsIn K mainGlobals "range" = some none)
    (z_repr : PySem.W.nsIn K mainGlobals "repr" = some none)
    (z_tuple : PySem.W.nsIn K mainGlobals "tuple" = some none)
    : ∃ fd : FuncData, (∀ (s : Shared) (v : Value), BindsTo s fd ⟨[v], []⟩ [("_law_script", v)]) ∧ ∀ base : Heap, K.In base → base.Ns mainGlobals mg → FnG l.prog w K mg base 7 fa fd ["_law_script"] (SpP ⟨K, mg⟩ d_law) := by
  have e := hfa.symm.trans (PySem.W.mg_of X G a10)
  cases e
  have T : Txt mg := ⟨PySem.W.mg_none_of X G z_abs, PySem.W.mg_none_of X G z_all, PySem.W.mg_none_of X G z_bool, PySem.W.mg_none_of X G z_int, PySem.W.mg_none_of X G z_isinstance, PySem.W.mg_none_of X G z_len, PySem.W.mg_none_of X G z_list, PySem.W.mg_none_of X G z_range, PySem.W.mg_none_of X G z_repr, PySem.W.mg_none_of X G z_tuple⟩
  have F0 := fun_mk (st := s__law_dune) l0 c0 k0
  have b0 := F0.binds (ps := ["_law_script"]) fun _ _ _ _ _ _ us hl => match us, hl with | [_], _ => rfl
  have F1 := fun_mk (st := s__law_drift) l1 c1 k1
  have b1 := F1.binds (ps := ["_law_dune_here", "_law_many"]) fun _ _ _ _ _ _ us hl => match us, hl with | [_, _], _ => rfl
  have F2 := fun_mk (st := s__law_pick) l2 c2 k2
  have b2 := F2.binds (ps := ["_law_dune_here", "_law_some"]) fun _ _ _ _ _ _ us hl => match us, hl with | [_, _], _ => rfl
  have F3 := fun_mk (st := s__law_integer) l3 c3 k3
  have b3 := F3.binds (ps := ["_law_dune_here"]) fun _ _ _ _ _ _ us hl => match us, hl with | [_], _ => rfl
  have F4 := fun_mk (st := s__law_value) l4 c4 k4
  have b4 := F4.binds (ps := ["_law_dune_here", "_law_deep"]) fun _ _ _ _ _ _ us hl => match us, hl with | [_, _], _ => rfl
  have F5 := fun_mk (st := s_is_integer) l5 c5 k5
  have b5 := F5.binds (ps := ["value"]) fun _ _ _ _ _ _ us hl => match us, hl with | [_], _ => rfl
  have F6 := fun_mk (st := s__law_is_integer) l6 c6 k6
  have b6 := F6.binds (ps := ["_law_value_here"]) fun _ _ _ _ _ _ us hl => match us, hl with | [_], _ => rfl
  have F7 := fun_mk (st := s_is_point) l7 c7 k7
  have b7 := F7.binds (ps := ["value"]) fun _ _ _ _ _ _ us hl => match us, hl with | [_], _ => rfl
  have F8 := fun_mk (st := s__law_is_point) l8 c8 k8
  have b8 := F8.binds (ps := ["_law_value_here"]) fun _ _ _ _ _ _ us hl => match us, hl with | [_], _ => rfl
  have F9 := fun_mk (st := s_is_within) l9 c9 k9
  have b9 := F9.binds (ps := ["value", "least", "most"]) fun _ _ _ _ _ _ us hl => match us, hl with | [_, _, _], _ => rfl
  have F10 := fun_mk (st := s_law) l10 c10 k10
  refine ⟨PySem.W.fnOf "law" "law" (defArgs s_law) (defBody s_law) (defScope s_law) .none kV10 dc10 pm10 an10 cd10 ct10, fun s v => .of_eq rfl, fun base _ _ => ?_⟩
  have C__law_dune : Callee l.prog w K mg base "_law_dune" "_law_dune" s__law_dune ["_law_script"] 1 (SpP ⟨K, mg⟩ d__law_dune) := ⟨f0, _, PySem.W.mg_of X G a0, F0, b0, ok__law_dune T F0⟩
  have C__law_drift : Callee l.prog w K mg base "_law_drift" "_law_drift" s__law_drift ["_law_dune_here", "_law_many"] 1 (SpM ⟨K, mg⟩ d__law_drift) := ⟨f1, _, PySem.W.mg_of X G a1, F1, b1, ok__law_drift T F1⟩
  have C__law_pick : Callee l.prog w K mg base "_law_pick" "_law_pick" s__law_pick ["_law_dune_here", "_law_some"] 2 (SpM ⟨K, mg⟩ d__law_pick) := ⟨f2, _, PySem.W.mg_of X G a2, F2, b2, ok__law_pick T C__law_drift F2⟩
  have C__law_integer : Callee l.prog w K mg base "_law_integer" "_law_integer" s__law_integer ["_law_dune_here"] 3 (SpM ⟨K, mg⟩ d__law_integer) := ⟨f3, _, PySem.W.mg_of X G a3, F3, b3, ok__law_integer T C__law_pick C__law_drift F3⟩
  have C__law_value : Callee l.prog w K mg base "_law_value" "_law_value" s__law_value ["_law_dune_here", "_law_deep"] 6 (SpM ⟨K, mg⟩ (d__law_value 3)) := ⟨f4, _, PySem.W.mg_of X G a4, F4, b4, ok__law_value T C__law_drift C__law_integer C__law_pick F4 (PySem.W.mg_of X G a4) b4 3⟩
  have C_is_integer : Callee l.prog w K mg base "is_integer" "is_integer" s_is_integer ["value"] 1 (SpP ⟨K, mg⟩ d_is_integer) := ⟨f5, _, PySem.W.mg_of X G a5, F5, b5, ok_is_integer T F5⟩
  have C__law_is_integer : Callee l.prog w K mg base "_law_is_integer" "_law_is_integer" s__law_is_integer ["_law_value_here"] 1 (SpP ⟨K, mg⟩ d__law_is_integer) := ⟨f6, _, PySem.W.mg_of X G a6, F6, b6, ok__law_is_integer T F6⟩
  have C_is_point : Callee l.prog w K mg base "is_point" "is_point" s_is_point ["value"] 2 (SpP ⟨K, mg⟩ d_is_point) := ⟨f7, _, PySem.W.mg_of X G a7, F7, b7, ok_is_point T C_is_integer F7⟩
  have C__law_is_point : Callee l.prog w K mg base "_law_is_point" "_law_is_point" s__law_is_point ["_law_value_here"] 2 (SpP ⟨K, mg⟩ d__law_is_point) := ⟨f8, _, PySem.W.mg_of X G a8, F8, b8, ok__law_is_point T C__law_is_integer F8⟩
  have C_is_within : Callee l.prog w K mg base "is_within" "is_within" s_is_within ["value", "least", "most"] 2 (SpP ⟨K, mg⟩ d_is_within) := ⟨f9, _, PySem.W.mg_of X G a9, F9, b9, ok_is_within T C_is_integer F9⟩
  exact ok_law T C__law_dune C__law_value C_is_integer C__law_is_integer C_is_point C__law_is_point C__law_pick C__law_integer C_is_within F10
-- CASES a0 l0 c0 k0 a1 l1 c1 k1 a2 l2 c2 k2 a3 l3 c3 k3 a4 l4 c4 k4 a5 l5 c5 k5 a6 l6 c6 k6 a7 l7 c7 k7 a8 l8 c8 k8 a9 l9 c9 k9 a10 l10 c10 k10 z_abs z_all z_bool z_int z_isinstance z_len z_list z_range z_repr z_tuple
end k02
end Pf

namespace Pf
namespace k02
open PySem PySem.Spec L2
theorem callP_ok {f : List D → RP} {ds : List D} {t : T} {ρ : Env} (e : f ds = .ok t) : callP f ds ρ = .ok t ρ := by
  unfold callP
  rw [e]
theorem drifts : Drifts d__law_drift := fun h hn h0 h1 =>
  drift_ok (fc := eN intD (aCons (eV 4) aNil)) (k1 := 112139) (k2 := 8821) (q1 := 2147483563) (k3 := 86117) (k4 := 8821) (q2 := 2147483587) (k5 := 8821) (k6 := 112139) (k7 := 86117) (q3 := 2147483549)
    ⟨by decide, by decide, by decide, by decide, by decide, by decide, by decide, by decide, by decide⟩ fc_int h hn h0 h1
theorem picks : Picks d__law_pick := pick_ok drifts
theorem pow9 : powD (.int 10) (.int 9) = some (.sh (.int 1000000000)) := by rfl
theorem pow25 : powD (.int 10) (.int 25) = some (.sh (.int 10000000000000000000000000)) := by rfl
/-- an int is drawn -/
theorem integer_ok {n : Nat} {ds : List D} (h : Src n ds) (hn : n + 4 ≤ 1000000) : ∃ (i : Int) (ds' : List D), d__law_integer ds [] = .ok (.sh (.int i)) ds' ∧ Src (n + 4) ds' := by
  obtain ⟨a, d1, e1, _, _, s1⟩ := drifts h (many := 100) (by omega) (by decide) (by decide)
  obtain ⟨b, d2, e2, _, _, s2⟩ := drifts s1 (many := 1000000000) (by omega) (by decide) (by decide)
  obtain ⟨c, d3, e3, _, _, s3⟩ := drifts s2 (many := 9) (by omega) (by decide) (by decide)
  obtain ⟨_, d, d4, e4, _, hd, s4⟩ := picks s3 (xs := [.int 0, .int 1, .int (-1), .int 7, .int a, .int (-b), .int (10000000000000000000000000 + c), .int (-10000000000000000000000000)]) (by omega) (by simp) (by simp only [List.length_cons, List.length_nil]; omega)
  obtain ⟨i, rfl⟩ : ∃ i, d = .int i := by
    simp only [List.mem_cons, List.not_mem_nil, or_false] at hd
    rcases hd with h | h | h | h | h | h | h | h <;> exact ⟨_, h⟩
  refine ⟨i, d4, ?_, s4⟩
  refine (q_denM rfl).trans ?_
  unfold g__law_integer
  have sz8 : (0 : Nat) + 1 + 1 + 1 + 1 + 1 + 1 + 1 + 1 ≤ sizeLine := by decide
  simp only [q_bind, q_bindx, q_s, q_sx, q_nx, q_rt, q_bk, q_ct, q_ex, q_seq, q_nil, q_if, q_expr, q_set, q_put, q_puto, q_puta, q_lookPs, q_lookPo, q_ret0, q_ret, q_reto, q_reta, q_lookRs, q_lookRo, q_c, q_v, q_lookVs, q_lookVo, q_view, q_viewo, q_viewa, q_slots, q_sloto, q_opt, q_e1, q_e2, q_eN, q_an, q_ac, q_views0, q_views, q_shs0, q_shs, q_f, q_frz, q_frzo, q_frza, q_lookFs, q_lookFo, q_lst, q_tup, q_mkL, q_mkT, q_cB, q_cV, q_cAnd, q_cOr, q_cNot, q_eIf, q_isBl, q_eAnd, q_eOr, q_eNot, q_andT, q_andF, q_orT, q_orF, q_notK, q_ix, q_ixJ, q_lookJ, q_ixK, q_lookK, q_stK, q_call, q_callO, q_callM, q_callK, q_lookC, q_resC, q_resCx, q_lent, q_lookL, q_resM, q_resMo, q_resMn, q_resMx, q_resP, q_resPo, q_resPn, q_resPx, q_asBl, List.not_mem_nil, q_lt, q_le, q_gt, q_ge, q_add, q_sub, q_mul, q_fdiv, q_mod, q_neg, q_int, q_intb, q_abs, q_len, q_lent1, q_lenr, q_ixl, q_ixt, q_ixr, q_trub, q_trun, q_trui, q_trul, q_trut, q_isn, q_isNn, q_isiT, at0, at1, at2, ixN1, ixN2, startE, List.map_cons, List.map_nil, List.length_cons, List.length_nil, List.replicate, List.cons_append, List.nil_append, List.getElem?_cons_zero, List.getElem?_cons_succ, List.set_cons_zero, List.set_cons_succ, Option.map_some, Option.bind_some, Option.map_none, Option.bind_none, Nat.reduceAdd, Nat.reduceSub, if_true, if_false, Bool.false_eq_true, decide_true, decide_false, Bool.not_true, Bool.not_false, reduceIte, List.length_map, e1, e2, e3, e4, pow9, pow25, sz8]
/-! what is asked -/
def Plain (d : D) : Prop := ∃ a, tyName d = some a
def isI : D → Bool
  | .int _ => true
  | _ => false
theorem is_integer_ok {d : D} (h : Plain d) : d_is_integer [d] = .ok (.sh (.bl (isI d))) := by
  obtain ⟨a, h⟩ := h
  cases d <;> first | rfl | cases h
theorem is_integer2_ok {d : D} (h : Plain d) : d__law_is_integer [d] = .ok (.sh (.bl (isI d))) := by
  obtain ⟨a, h⟩ := h
  cases d <;> first | rfl | cases h
def Ok2 (d : D) : Prop := Plain d ∧ ∀ xs, d = .lst xs ∨ d = .tup xs → ∀ x ∈ xs, Plain x
def isP : D → Bool
  | .lst [a, b] => isI a && isI b
  | .tup [a, b] => isI a && isI b
  | _ => false
theorem eq_int {a b : Int} : eqD (.int a) (.int b) = some (a == b) := by
  show (if (SeqAt.shaped (.int a) && SeqAt.shaped (.int b)) = true then some (PyData.eqv (.int a) (.int b)) else none) = _
  have h : ∀ a : Int, SeqAt.shaped (.int a) = true := fun a => rfl
  rw [h, h]
  rfl
theorem all_isI : ∀ xs : List D, blsD (xs.map fun x => .bl (isI x)) = some (xs.map isI)
  | [] => rfl
  | x :: xs => by
    show (blsD (xs.map fun x => .bl (isI x))).map (isI x :: ·) = _
    rw [all_isI xs]
    rfl
theorem point_items {xs : List D} (h : ∀ x ∈ xs, Plain x) (hl : xs.length ≤ sizeLine) {v : D} (hv : (v = .lst xs ∨ v = .tup xs)) :
    lcD [] [1] (gN 1) cYes (eCall d_is_integer (aCons (eF [] (eV 1)) (aNil))) xs 0 [some (.sh v), none] = .ok (xs.map fun x => .bl (isI x)) [some (.sh v), none] := by
  refine lcD_map 0 (by omega) fun d hd => ⟨_, [some (.sh v), some (.sh d)], rfl, ?_, rfl⟩
  have e := callP_ok (ρ := [some (.sh v), some (.sh d)]) (is_integer_ok (h d hd))
  simp only [q_bind, q_bindx, q_s, q_sx, q_nx, q_rt, q_bk, q_ct, q_ex, q_seq, q_nil, q_if, q_expr, q_set, q_put, q_puto, q_puta, q_lookPs, q_lookPo, q_ret0, q_ret, q_reto, q_reta, q_lookRs, q_lookRo, q_c, q_v, q_lookVs, q_lookVo, q_view, q_viewo, q_viewa, q_slots, q_sloto, q_opt, q_e1, q_e2, q_eN, q_an, q_ac, q_views0, q_views, q_shs0, q_shs, q_f, q_frz, q_frzo, q_frza, q_lookFs, q_lookFo, q_lst, q_tup, q_mkL, q_mkT, q_cB, q_cV, q_cAnd, q_cOr, q_cNot, q_eIf, q_isBl, q_eAnd, q_eOr, q_eNot, q_andT, q_andF, q_orT, q_orF, q_notK, q_ix, q_ixJ, q_lookJ, q_ixK, q_lookK, q_stK, q_call, q_callO, q_callM, q_callK, q_lookC, q_resC, q_resCx, q_lent, q_lookL, q_resM, q_resMo, q_resMn, q_resMx, q_resP, q_resPo, q_resPn, q_resPx, q_asBl, List.not_mem_nil, q_lt, q_le, q_gt, q_ge, q_add, q_sub, q_mul, q_fdiv, q_mod, q_neg, q_int, q_intb, q_abs, q_len, q_lent1, q_lenr, q_ixl, q_ixt, q_ixr, q_trub, q_trun, q_trui, q_trul, q_trut, q_isn, q_isNn, q_isiT, at0, at1, at2, ixN1, ixN2, startE, List.map_cons, List.map_nil, List.length_cons, List.length_nil, List.replicate, List.cons_append, List.nil_append, List.getElem?_cons_zero, List.getElem?_cons_succ, List.set_cons_zero, List.set_cons_succ, Option.map_some, Option.bind_some, Option.map_none, Option.bind_none, Nat.reduceAdd, Nat.reduceSub, if_true, if_false, Bool.false_eq_true, decide_true, decide_false, Bool.not_true, Bool.not_false, reduceIte, List.length_map, e]
theorem len_eq {n : Nat} : ((n : Int) == 2) = (n == 2) := by
  by_cases h : n = 2
  · subst h; rfl
  · rw [beq_eq_false_iff_ne.mpr h, beq_eq_false_iff_ne.mpr (by omega)]
theorem isP_of {xs : List D} {v : D} (hv : (v = .lst xs ∨ v = .tup xs)) : isP v = ((xs.length == 2) && (xs.map isI).all id) := by
  rcases hv with rfl | rfl <;>
  · match xs with
    | [] => rfl
    | [_] => rfl
    | [a, b] => simp [isP]
    | _ :: _ :: _ :: xs =>
      have : ((xs.length + 1 + 1 + 1 == 2) = false) := beq_eq_false_iff_ne.mpr (by omega)
      simp only [isP, List.length_cons, this, Bool.false_and]
theorem is_point_ok {d : D} (h : Ok2 d) (hz : ∀ xs, d = .lst xs ∨ d = .tup xs → xs.length ≤ sizeLine) : d_is_point [d] = .ok (.sh (.bl (isP d))) := by
  have go : ∀ (xs : List D) (b : Bool), (d = .lst xs ∨ d = .tup xs) → d_is_point [d] = .ok (.sh (.bl (isP d))) := fun xs b hv => by
    have e := point_items (h.2 xs hv) (hz xs hv) hv
    have hp := isP_of hv
    have al : allD [.lst (xs.map fun x => .bl (isI x))] = some (.sh (.bl ((xs.map isI).all id))) := by
      show (blsD _).map _ = _
      rw [all_isI]
      rfl
    refine (q_denP rfl).trans ?_
    unfold g_is_point
    rw [hp]
    by_cases h2 : xs.length = 2
    · have h3 : ((xs.length : Int) == 2) = true := by rw [len_eq, h2]; rfl
      have h4 : (xs.length == 2) = true := beq_iff_eq.mpr h2
      rcases hv with rfl | rfl
      · have t1 : (tyName (.lst xs)).bind (fun a => (isiAll a ["list", "tuple"]).map fun k => T.sh (.bl k)) = some (.sh (.bl true)) := rfl
        simp only [q_bind, q_bindx, q_s, q_sx, q_nx, q_rt, q_bk, q_ct, q_ex, q_seq, q_nil, q_if, q_expr, q_set, q_put, q_puto, q_puta, q_lookPs, q_lookPo, q_ret0, q_ret, q_reto, q_reta, q_lookRs, q_lookRo, q_c, q_v, q_lookVs, q_lookVo, q_view, q_viewo, q_viewa, q_slots, q_sloto, q_opt, q_e1, q_e2, q_eN, q_an, q_ac, q_views0, q_views, q_shs0, q_shs, q_f, q_frz, q_frzo, q_frza, q_lookFs, q_lookFo, q_lst, q_tup, q_mkL, q_mkT, q_cB, q_cV, q_cAnd, q_cOr, q_cNot, q_eIf, q_isBl, q_eAnd, q_eOr, q_eNot, q_andT, q_andF, q_orT, q_orF, q_notK, q_ix, q_ixJ, q_lookJ, q_ixK, q_lookK, q_stK, q_call, q_callO, q_callM, q_callK, q_lookC, q_resC, q_resCx, q_lent, q_lookL, q_resM, q_resMo, q_resMn, q_resMx, q_resP, q_resPo, q_resPn, q_resPx, q_asBl, List.not_mem_nil, q_lt, q_le, q_gt, q_ge, q_add, q_sub, q_mul, q_fdiv, q_mod, q_neg, q_int, q_intb, q_abs, q_len, q_lent1, q_lenr, q_ixl, q_ixt, q_ixr, q_trub, q_trun, q_trui, q_trul, q_trut, q_isn, q_isNn, q_isiT, at0, at1, at2, ixN1, ixN2, startE, List.map_cons, List.map_nil, List.length_cons, List.length_nil, List.replicate, List.cons_append, List.nil_append, List.getElem?_cons_zero, List.getElem?_cons_succ, List.set_cons_zero, List.set_cons_succ, Option.map_some, Option.bind_some, Option.map_none, Option.bind_none, Nat.reduceAdd, Nat.reduceSub, if_true, if_false, Bool.false_eq_true, decide_true, decide_false, Bool.not_true, Bool.not_false, reduceIte, List.length_map, t1, eq_int, h3, q_lc, q_lcK, q_iSeq, q_itl, wipeE, unw, ksh, e, al, h4, Bool.true_and]
      · have t1 : (tyName (.tup xs)).bind (fun a => (isiAll a ["list", "tuple"]).map fun k => T.sh (.bl k)) = some (.sh (.bl true)) := rfl
        simp only [q_bind, q_bindx, q_s, q_sx, q_nx, q_rt, q_bk, q_ct, q_ex, q_seq, q_nil, q_if, q_expr, q_set, q_put, q_puto, q_puta, q_lookPs, q_lookPo, q_ret0, q_ret, q_reto, q_reta, q_lookRs, q_lookRo, q_c, q_v, q_lookVs, q_lookVo, q_view, q_viewo, q_viewa, q_slots, q_sloto, q_opt, q_e1, q_e2, q_eN, q_an, q_ac, q_views0, q_views, q_shs0, q_shs, q_f, q_frz, q_frzo, q_frza, q_lookFs, q_lookFo, q_lst, q_tup, q_mkL, q_mkT, q_cB, q_cV, q_cAnd, q_cOr, q_cNot, q_eIf, q_isBl, q_eAnd, q_eOr, q_eNot, q_andT, q_andF, q_orT, q_orF, q_notK, q_ix, q_ixJ, q_lookJ, q_ixK, q_lookK, q_stK, q_call, q_callO, q_callM, q_callK, q_lookC, q_resC, q_resCx, q_lent, q_lookL, q_resM, q_resMo, q_resMn, q_resMx, q_resP, q_resPo, q_resPn, q_resPx, q_asBl, List.not_mem_nil, q_lt, q_le, q_gt, q_ge, q_add, q_sub, q_mul, q_fdiv, q_mod, q_neg, q_int, q_intb, q_abs, q_len, q_lent1, q_lenr, q_ixl, q_ixt, q_ixr, q_trub, q_trun, q_trui, q_trul, q_trut, q_isn, q_isNn, q_isiT, at0, at1, at2, ixN1, ixN2, startE, List.map_cons, List.map_nil, List.length_cons, List.length_nil, List.replicate, List.cons_append, List.nil_append, List.getElem?_cons_zero, List.getElem?_cons_succ, List.set_cons_zero, List.set_cons_succ, Option.map_some, Option.bind_some, Option.map_none, Option.bind_none, Nat.reduceAdd, Nat.reduceSub, if_true, if_false, Bool.false_eq_true, decide_true, decide_false, Bool.not_true, Bool.not_false, reduceIte, List.length_map, t1, eq_int, h3, q_lc, q_lcK, q_iSeq, q_itt, wipeE, unw, ksh, e, al, h4, Bool.true_and]
    · have h3 : ((xs.length : Int) == 2) = false := by rw [len_eq]; exact beq_eq_false_iff_ne.mpr h2
      have h4 : (xs.length == 2) = false := beq_eq_false_iff_ne.mpr h2
      rcases hv with rfl | rfl
      · have t1 : (tyName (.lst xs)).bind (fun a => (isiAll a ["list", "tuple"]).map fun k => T.sh (.bl k)) = some (.sh (.bl true)) := rfl
        simp only [q_bind, q_bindx, q_s, q_sx, q_nx, q_rt, q_bk, q_ct, q_ex, q_seq, q_nil, q_if, q_expr, q_set, q_put, q_puto, q_puta, q_lookPs, q_lookPo, q_ret0, q_ret, q_reto, q_reta, q_lookRs, q_lookRo, q_c, q_v, q_lookVs, q_lookVo, q_view, q_viewo, q_viewa, q_slots, q_sloto, q_opt, q_e1, q_e2, q_eN, q_an, q_ac, q_views0, q_views, q_shs0, q_shs, q_f, q_frz, q_frzo, q_frza, q_lookFs, q_lookFo, q_lst, q_tup, q_mkL, q_mkT, q_cB, q_cV, q_cAnd, q_cOr, q_cNot, q_eIf, q_isBl, q_eAnd, q_eOr, q_eNot, q_andT, q_andF, q_orT, q_orF, q_notK, q_ix, q_ixJ, q_lookJ, q_ixK, q_lookK, q_stK, q_call, q_callO, q_callM, q_callK, q_lookC, q_resC, q_resCx, q_lent, q_lookL, q_resM, q_resMo, q_resMn, q_resMx, q_resP, q_resPo, q_resPn, q_resPx, q_asBl, List.not_mem_nil, q_lt, q_le, q_gt, q_ge, q_add, q_sub, q_mul, q_fdiv, q_mod, q_neg, q_int, q_intb, q_abs, q_len, q_lent1, q_lenr, q_ixl, q_ixt, q_ixr, q_trub, q_trun, q_trui, q_trul, q_trut, q_isn, q_isNn, q_isiT, at0, at1, at2, ixN1, ixN2, startE, List.map_cons, List.map_nil, List.length_cons, List.length_nil, List.replicate, List.cons_append, List.nil_append, List.getElem?_cons_zero, List.getElem?_cons_succ, List.set_cons_zero, List.set_cons_succ, Option.map_some, Option.bind_some, Option.map_none, Option.bind_none, Nat.reduceAdd, Nat.reduceSub, if_true, if_false, Bool.false_eq_true, decide_true, decide_false, Bool.not_true, Bool.not_false, reduceIte, List.length_map, t1, eq_int, h3, h4, Bool.false_and]
      · have t1 : (tyName (.tup xs)).bind (fun a => (isiAll a ["list", "tuple"]).map fun k => T.sh (.bl k)) = some (.sh (.bl true)) := rfl
        simp only [q_bind, q_bindx, q_s, q_sx, q_nx, q_rt, q_bk, q_ct, q_ex, q_seq, q_nil, q_if, q_expr, q_set, q_put, q_puto, q_puta, q_lookPs, q_lookPo, q_ret0, q_ret, q_reto, q_reta, q_lookRs, q_lookRo, q_c, q_v, q_lookVs, q_lookVo, q_view, q_viewo, q_viewa, q_slots, q_sloto, q_opt, q_e1, q_e2, q_eN, q_an, q_ac, q_views0, q_views, q_shs0, q_shs, q_f, q_frz, q_frzo, q_frza, q_lookFs, q_lookFo, q_lst, q_tup, q_mkL, q_mkT, q_cB, q_cV, q_cAnd, q_cOr, q_cNot, q_eIf, q_isBl, q_eAnd, q_eOr, q_eNot, q_andT, q_andF, q_orT, q_orF, q_notK, q_ix, q_ixJ, q_lookJ, q_ixK, q_lookK, q_stK, q_call, q_callO, q_callM, q_callK, q_lookC, q_resC, q_resCx, q_lent, q_lookL, q_resM, q_resMo, q_resMn, q_resMx, q_resP, q_resPo, q_resPn, q_resPx, q_asBl, List.not_mem_nil, q_lt, q_le, q_gt, q_ge, q_add, q_sub, q_mul, q_fdiv, q_mod, q_neg, q_int, q_intb, q_abs, q_len, q_lent1, q_lenr, q_ixl, q_ixt, q_ixr, q_trub, q_trun, q_trui, q_trul, q_trut, q_isn, q_isNn, q_isiT, at0, at1, at2, ixN1, ixN2, startE, List.map_cons, List.map_nil, List.length_cons, List.length_nil, List.replicate, List.cons_append, List.nil_append, List.getElem?_cons_zero, List.getElem?_cons_succ, List.set_cons_zero, List.set_cons_succ, Option.map_some, Option.bind_some, Option.map_none, Option.bind_none, Nat.reduceAdd, Nat.reduceSub, if_true, if_false, Bool.false_eq_true, decide_true, decide_false, Bool.not_true, Bool.not_false, reduceIte, List.length_map, t1, eq_int, h3, h4, Bool.false_and]
  obtain ⟨a, ha⟩ := h.1
  cases d with
  | lst xs => exact go xs true (.inl rfl)
  | tup xs => exact go xs true (.inr rfl)
  | non => rfl
  | bl b => rfl
  | int i => rfl
  | str s => rfl
  | dk kvs => rfl
  | _ => cases ha
theorem is_point2_ok {d : D} (h : Ok2 d) : d__law_is_point [d] = .ok (.sh (.bl (isP d))) := by
  have go : ∀ (xs : List D), (d = .lst xs ∨ d = .tup xs) → d__law_is_point [d] = .ok (.sh (.bl (isP d))) := fun xs hv => by
    refine (q_denP rfl).trans ?_
    unfold g__law_is_point
    by_cases h2 : xs.length = 2
    · match xs, h2 with
      | [a, b], _ =>
        have ea := fun ρ => callP_ok (ρ := ρ) (is_integer2_ok (h.2 _ hv a (by simp)))
        have eb := fun ρ => callP_ok (ρ := ρ) (is_integer2_ok (h.2 _ hv b (by simp)))
        have ne2 : neD (.int ((2 : Nat) : Int)) (.int 2) = some false := rfl
        rcases hv with rfl | rfl
        · have t1 : (tyName (.lst [a, b])).bind (fun a => (isiAll a ["list", "tuple"]).map fun k => T.sh (.bl k)) = some (.sh (.bl true)) := rfl
          cases ia : isI a <;> simp only [q_bind, q_bindx, q_s, q_sx, q_nx, q_rt, q_bk, q_ct, q_ex, q_seq, q_nil, q_if, q_expr, q_set, q_put, q_puto, q_puta, q_lookPs, q_lookPo, q_ret0, q_ret, q_reto, q_reta, q_lookRs, q_lookRo, q_c, q_v, q_lookVs, q_lookVo, q_view, q_viewo, q_viewa, q_slots, q_sloto, q_opt, q_e1, q_e2, q_eN, q_an, q_ac, q_views0, q_views, q_shs0, q_shs, q_f, q_frz, q_frzo, q_frza, q_lookFs, q_lookFo, q_lst, q_tup, q_mkL, q_mkT, q_cB, q_cV, q_cAnd, q_cOr, q_cNot, q_eIf, q_isBl, q_eAnd, q_eOr, q_eNot, q_andT, q_andF, q_orT, q_orF, q_notK, q_ix, q_ixJ, q_lookJ, q_ixK, q_lookK, q_stK, q_call, q_callO, q_callM, q_callK, q_lookC, q_resC, q_resCx, q_lent, q_lookL, q_resM, q_resMo, q_resMn, q_resMx, q_resP, q_resPo, q_resPn, q_resPx, q_asBl, List.not_mem_nil, q_lt, q_le, q_gt, q_ge, q_add, q_sub, q_mul, q_fdiv, q_mod, q_neg, q_int, q_intb, q_abs, q_len, q_lent1, q_lenr, q_ixl, q_ixt, q_ixr, q_trub, q_trun, q_trui, q_trul, q_trut, q_isn, q_isNn, q_isiT, at0, at1, at2, ixN1, ixN2, startE, List.map_cons, List.map_nil, List.length_cons, List.length_nil, List.replicate, List.cons_append, List.nil_append, List.getElem?_cons_zero, List.getElem?_cons_succ, List.set_cons_zero, List.set_cons_succ, Option.map_some, Option.bind_some, Option.map_none, Option.bind_none, Nat.reduceAdd, Nat.reduceSub, if_true, if_false, Bool.false_eq_true, decide_true, decide_false, Bool.not_true, Bool.not_false, reduceIte, List.length_map, t1, ne2, ea, eb, isP, ia, Bool.false_and, Bool.true_and]
        · have t1 : (tyName (.tup [a, b])).bind (fun a => (isiAll a ["list", "tuple"]).map fun k => T.sh (.bl k)) = some (.sh (.bl true)) := rfl
          cases ia : isI a <;> simp only [q_bind, q_bindx, q_s, q_sx, q_nx, q_rt, q_bk, q_ct, q_ex, q_seq, q_nil, q_if, q_expr, q_set, q_put, q_puto, q_puta, q_lookPs, q_lookPo, q_ret0, q_ret, q_reto, q_reta, q_lookRs, q_lookRo, q_c, q_v, q_lookVs, q_lookVo, q_view, q_viewo, q_viewa, q_slots, q_sloto, q_opt, q_e1, q_e2, q_eN, q_an, q_ac, q_views0, q_views, q_shs0, q_shs, q_f, q_frz, q_frzo, q_frza, q_lookFs, q_lookFo, q_lst, q_tup, q_mkL, q_mkT, q_cB, q_cV, q_cAnd, q_cOr, q_cNot, q_eIf, q_isBl, q_eAnd, q_eOr, q_eNot, q_andT, q_andF, q_orT, q_orF, q_notK, q_ix, q_ixJ, q_lookJ, q_ixK, q_lookK, q_stK, q_call, q_callO, q_callM, q_callK, q_lookC, q_resC, q_resCx, q_lent, q_lookL, q_resM, q_resMo, q_resMn, q_resMx, q_resP, q_resPo, q_resPn, q_resPx, q_asBl, List.not_mem_nil, q_lt, q_le, q_gt, q_ge, q_add, q_sub, q_mul, q_fdiv, q_mod, q_neg, q_int, q_intb, q_abs, q_len, q_lent1, q_lenr, q_ixl, q_ixt, q_ixr, q_trub, q_trun, q_trui, q_trul, q_trut, q_isn, q_isNn, q_isiT, at0, at1, at2, ixN1, ixN2, startE, List.map_cons, List.map_nil, List.length_cons, List.length_nil, List.replicate, List.cons_append, List.nil_append, List.getElem?_cons_zero, List.getElem?_cons_succ, List.set_cons_zero, List.set_cons_succ, Option.map_some, Option.bind_some, Option.map_none, Option.bind_none, Nat.reduceAdd, Nat.reduceSub, if_true, if_false, Bool.false_eq_true, decide_true, decide_false, Bool.not_true, Bool.not_false, reduceIte, List.length_map, t1, ne2, ea, eb, isP, ia, Bool.false_and, Bool.true_and]
    · have h3 : neD (.int (xs.length : Int)) (.int 2) = some true := by
        unfold neD
        rw [eq_int, len_eq, beq_eq_false_iff_ne.mpr h2]
        rfl
      have h4 : (xs.length == 2) = false := beq_eq_false_iff_ne.mpr h2
      rw [isP_of hv, h4]
      rcases hv with rfl | rfl
      · have t1 : (tyName (.lst xs)).bind (fun a => (isiAll a ["list", "tuple"]).map fun k => T.sh (.bl k)) = some (.sh (.bl true)) := rfl
        simp only [q_bind, q_bindx, q_s, q_sx, q_nx, q_rt, q_bk, q_ct, q_ex, q_seq, q_nil, q_if, q_expr, q_set, q_put, q_puto, q_puta, q_lookPs, q_lookPo, q_ret0, q_ret, q_reto, q_reta, q_lookRs, q_lookRo, q_c, q_v, q_lookVs, q_lookVo, q_view, q_viewo, q_viewa, q_slots, q_sloto, q_opt, q_e1, q_e2, q_eN, q_an, q_ac, q_views0, q_views, q_shs0, q_shs, q_f, q_frz, q_frzo, q_frza, q_lookFs, q_lookFo, q_lst, q_tup, q_mkL, q_mkT, q_cB, q_cV, q_cAnd, q_cOr, q_cNot, q_eIf, q_isBl, q_eAnd, q_eOr, q_eNot, q_andT, q_andF, q_orT, q_orF, q_notK, q_ix, q_ixJ, q_lookJ, q_ixK, q_lookK, q_stK, q_call, q_callO, q_callM, q_callK, q_lookC, q_resC, q_resCx, q_lent, q_lookL, q_resM, q_resMo, q_resMn, q_resMx, q_resP, q_resPo, q_resPn, q_resPx, q_asBl, List.not_mem_nil, q_lt, q_le, q_gt, q_ge, q_add, q_sub, q_mul, q_fdiv, q_mod, q_neg, q_int, q_intb, q_abs, q_len, q_lent1, q_lenr, q_ixl, q_ixt, q_ixr, q_trub, q_trun, q_trui, q_trul, q_trut, q_isn, q_isNn, q_isiT, at0, at1, at2, ixN1, ixN2, startE, List.map_cons, List.map_nil, List.length_cons, List.length_nil, List.replicate, List.cons_append, List.nil_append, List.getElem?_cons_zero, List.getElem?_cons_succ, List.set_cons_zero, List.set_cons_succ, Option.map_some, Option.bind_some, Option.map_none, Option.bind_none, Nat.reduceAdd, Nat.reduceSub, if_true, if_false, Bool.false_eq_true, decide_true, decide_false, Bool.not_true, Bool.not_false, reduceIte, List.length_map, t1, h3, Bool.false_and]
      · have t1 : (tyName (.tup xs)).bind (fun a => (isiAll a ["list", "tuple"]).map fun k => T.sh (.bl k)) = some (.sh (.bl true)) := rfl
        simp only [q_bind, q_bindx, q_s, q_sx, q_nx, q_rt, q_bk, q_ct, q_ex, q_seq, q_nil, q_if, q_expr, q_set, q_put, q_puto, q_puta, q_lookPs, q_lookPo, q_ret0, q_ret, q_reto, q_reta, q_lookRs, q_lookRo, q_c, q_v, q_lookVs, q_lookVo, q_view, q_viewo, q_viewa, q_slots, q_sloto, q_opt, q_e1, q_e2, q_eN, q_an, q_ac, q_views0, q_views, q_shs0, q_shs, q_f, q_frz, q_frzo, q_frza, q_lookFs, q_lookFo, q_lst, q_tup, q_mkL, q_mkT, q_cB, q_cV, q_cAnd, q_cOr, q_cNot, q_eIf, q_isBl, q_eAnd, q_eOr, q_eNot, q_andT, q_andF, q_orT, q_orF, q_notK, q_ix, q_ixJ, q_lookJ, q_ixK, q_lookK, q_stK, q_call, q_callO, q_callM, q_callK, q_lookC, q_resC, q_resCx, q_lent, q_lookL, q_resM, q_resMo, q_resMn, q_resMx, q_resP, q_resPo, q_resPn, q_resPx, q_asBl, List.not_mem_nil, q_lt, q_le, q_gt, q_ge, q_add, q_sub, q_mul, q_fdiv, q_mod, q_neg, q_int, q_intb, q_abs, q_len, q_lent1, q_lenr, q_ixl, q_ixt, q_ixr, q_trub, q_trun, q_trui, q_trul, q_trut, q_isn, q_isNn, q_isiT, at0, at1, at2, ixN1, ixN2, startE, List.map_cons, List.map_nil, List.length_cons, List.length_nil, List.replicate, List.cons_append, List.nil_append, List.getElem?_cons_zero, List.getElem?_cons_succ, List.set_cons_zero, List.set_cons_succ, Option.map_some, Option.bind_some, Option.map_none, Option.bind_none, Nat.reduceAdd, Nat.reduceSub, if_true, if_false, Bool.false_eq_true, decide_true, decide_false, Bool.not_true, Bool.not_false, reduceIte, List.length_map, t1, h3, Bool.false_and]
  obtain ⟨a, ha⟩ := h.1
  cases d with
  | lst xs => exact go xs (.inl rfl)
  | tup xs => exact go xs (.inr rfl)
  | non => rfl
  | bl b => rfl
  | int i => rfl
  | str s => rfl
  | dk kvs => rfl
  | _ => cases ha
def LM (d : D) : Prop := d = .non ∨ ∃ i, d = .int i
def dueB : D → D → D → Bool
  | .int i, l, m => (match l with | .int a => decide (a ≤ i) | _ => true) && (match m with | .int b => decide (i ≤ b) | _ => true)
  | _, _, _ => false
theorem due_no {v l m : D} (h : isI v = false) : dueB v l m = false := by
  cases v <;> first | rfl | cases h
theorem isI_int {v : D} (h : isI v = true) : ∃ i, v = .int i := by
  cases v <;> first | exact ⟨_, rfl⟩ | cases h
theorem is_within_ok {v l m : D} (hv : Plain v) (hl : LM l) (hm : LM m) : d_is_within [v, l, m] = .ok (.sh (.bl (dueB v l m))) := by
  have e := fun ρ => callP_ok (ρ := ρ) (is_integer_ok hv)
  refine (q_denP rfl).trans ?_
  unfold g_is_within
  cases hi : isI v with
  | false =>
    rw [due_no hi]
    simp only [q_bind, q_bindx, q_s, q_sx, q_nx, q_rt, q_bk, q_ct, q_ex, q_seq, q_nil, q_if, q_expr, q_set, q_put, q_puto, q_puta, q_lookPs, q_lookPo, q_ret0, q_ret, q_reto, q_reta, q_lookRs, q_lookRo, q_c, q_v, q_lookVs, q_lookVo, q_view, q_viewo, q_viewa, q_slots, q_sloto, q_opt, q_e1, q_e2, q_eN, q_an, q_ac, q_views0, q_views, q_shs0, q_shs, q_f, q_frz, q_frzo, q_frza, q_lookFs, q_lookFo, q_lst, q_tup, q_mkL, q_mkT, q_cB, q_cV, q_cAnd, q_cOr, q_cNot, q_eIf, q_isBl, q_eAnd, q_eOr, q_eNot, q_andT, q_andF, q_orT, q_orF, q_notK, q_ix, q_ixJ, q_lookJ, q_ixK, q_lookK, q_stK, q_call, q_callO, q_callM, q_callK, q_lookC, q_resC, q_resCx, q_lent, q_lookL, q_resM, q_resMo, q_resMn, q_resMx, q_resP, q_resPo, q_resPn, q_resPx, q_asBl, List.not_mem_nil, q_lt, q_le, q_gt, q_ge, q_add, q_sub, q_mul, q_fdiv, q_mod, q_neg, q_int, q_intb, q_abs, q_len, q_lent1, q_lenr, q_ixl, q_ixt, q_ixr, q_trub, q_trun, q_trui, q_trul, q_trut, q_isn, q_isNn, q_isiT, at0, at1, at2, ixN1, ixN2, startE, List.map_cons, List.map_nil, List.length_cons, List.length_nil, List.replicate, List.cons_append, List.nil_append, List.getElem?_cons_zero, List.getElem?_cons_succ, List.set_cons_zero, List.set_cons_succ, Option.map_some, Option.bind_some, Option.map_none, Option.bind_none, Nat.reduceAdd, Nat.reduceSub, if_true, if_false, Bool.false_eq_true, decide_true, decide_false, Bool.not_true, Bool.not_false, reduceIte, List.length_map, e, hi]
  | true =>
    obtain ⟨i, rfl⟩ := isI_int hi
    rcases hl with rfl | ⟨a, rfl⟩
    · rcases hm with rfl | ⟨b, rfl⟩
      · simp only [q_bind, q_bindx, q_s, q_sx, q_nx, q_rt, q_bk, q_ct, q_ex, q_seq, q_nil, q_if, q_expr, q_set, q_put, q_puto, q_puta, q_lookPs, q_lookPo, q_ret0, q_ret, q_reto, q_reta, q_lookRs, q_lookRo, q_c, q_v, q_lookVs, q_lookVo, q_view, q_viewo, q_viewa, q_slots, q_sloto, q_opt, q_e1, q_e2, q_eN, q_an, q_ac, q_views0, q_views, q_shs0, q_shs, q_f, q_frz, q_frzo, q_frza, q_lookFs, q_lookFo, q_lst, q_tup, q_mkL, q_mkT, q_cB, q_cV, q_cAnd, q_cOr, q_cNot, q_eIf, q_isBl, q_eAnd, q_eOr, q_eNot, q_andT, q_andF, q_orT, q_orF, q_notK, q_ix, q_ixJ, q_lookJ, q_ixK, q_lookK, q_stK, q_call, q_callO, q_callM, q_callK, q_lookC, q_resC, q_resCx, q_lent, q_lookL, q_resM, q_resMo, q_resMn, q_resMx, q_resP, q_resPo, q_resPn, q_resPx, q_asBl, List.not_mem_nil, q_lt, q_le, q_gt, q_ge, q_add, q_sub, q_mul, q_fdiv, q_mod, q_neg, q_int, q_intb, q_abs, q_len, q_lent1, q_lenr, q_ixl, q_ixt, q_ixr, q_trub, q_trun, q_trui, q_trul, q_trut, q_isn, q_isNn, q_isiT, at0, at1, at2, ixN1, ixN2, startE, List.map_cons, List.map_nil, List.length_cons, List.length_nil, List.replicate, List.cons_append, List.nil_append, List.getElem?_cons_zero, List.getElem?_cons_succ, List.set_cons_zero, List.set_cons_succ, Option.map_some, Option.bind_some, Option.map_none, Option.bind_none, Nat.reduceAdd, Nat.reduceSub, if_true, if_false, Bool.false_eq_true, decide_true, decide_false, Bool.not_true, Bool.not_false, reduceIte, List.length_map, e, hi, isNonD, dueB, Bool.true_and]
      · simp only [q_bind, q_bindx, q_s, q_sx, q_nx, q_rt, q_bk, q_ct, q_ex, q_seq, q_nil, q_if, q_expr, q_set, q_put, q_puto, q_puta, q_lookPs, q_lookPo, q_ret0, q_ret, q_reto, q_reta, q_lookRs, q_lookRo, q_c, q_v, q_lookVs, q_lookVo, q_view, q_viewo, q_viewa, q_slots, q_sloto, q_opt, q_e1, q_e2, q_eN, q_an, q_ac, q_views0, q_views, q_shs0, q_shs, q_f, q_frz, q_frzo, q_frza, q_lookFs, q_lookFo, q_lst, q_tup, q_mkL, q_mkT, q_cB, q_cV, q_cAnd, q_cOr, q_cNot, q_eIf, q_isBl, q_eAnd, q_eOr, q_eNot, q_andT, q_andF, q_orT, q_orF, q_notK, q_ix, q_ixJ, q_lookJ, q_ixK, q_lookK, q_stK, q_call, q_callO, q_callM, q_callK, q_lookC, q_resC, q_resCx, q_lent, q_lookL, q_resM, q_resMo, q_resMn, q_resMx, q_resP, q_resPo, q_resPn, q_resPx, q_asBl, List.not_mem_nil, q_lt, q_le, q_gt, q_ge, q_add, q_sub, q_mul, q_fdiv, q_mod, q_neg, q_int, q_intb, q_abs, q_len, q_lent1, q_lenr, q_ixl, q_ixt, q_ixr, q_trub, q_trun, q_trui, q_trul, q_trut, q_isn, q_isNn, q_isiT, at0, at1, at2, ixN1, ixN2, startE, List.map_cons, List.map_nil, List.length_cons, List.length_nil, List.replicate, List.cons_append, List.nil_append, List.getElem?_cons_zero, List.getElem?_cons_succ, List.set_cons_zero, List.set_cons_succ, Option.map_some, Option.bind_some, Option.map_none, Option.bind_none, Nat.reduceAdd, Nat.reduceSub, if_true, if_false, Bool.false_eq_true, decide_true, decide_false, Bool.not_true, Bool.not_false, reduceIte, List.length_map, e, hi, isNonD, dueB, Bool.true_and]
    · cases ha : decide (a ≤ i) with
      | false =>
        rcases hm with rfl | ⟨b, rfl⟩
        · simp only [q_bind, q_bindx, q_s, q_sx, q_nx, q_rt, q_bk, q_ct, q_ex, q_seq, q_nil, q_if, q_expr, q_set, q_put, q_puto, q_puta, q_lookPs, q_lookPo, q_ret0, q_ret, q_reto, q_reta, q_lookRs, q_lookRo, q_c, q_v, q_lookVs, q_lookVo, q_view, q_viewo, q_viewa, q_slots, q_sloto, q_opt, q_e1, q_e2, q_eN, q_an, q_ac, q_views0, q_views, q_shs0, q_shs, q_f, q_frz, q_frzo, q_frza, q_lookFs, q_lookFo, q_lst, q_tup, q_mkL, q_mkT, q_cB, q_cV, q_cAnd, q_cOr, q_cNot, q_eIf, q_isBl, q_eAnd, q_eOr, q_eNot, q_andT, q_andF, q_orT, q_orF, q_notK, q_ix, q_ixJ, q_lookJ, q_ixK, q_lookK, q_stK, q_call, q_callO, q_callM, q_callK, q_lookC, q_resC, q_resCx, q_lent, q_lookL, q_resM, q_resMo, q_resMn, q_resMx, q_resP, q_resPo, q_resPn, q_resPx, q_asBl, List.not_mem_nil, q_lt, q_le, q_gt, q_ge, q_add, q_sub, q_mul, q_fdiv, q_mod, q_neg, q_int, q_intb, q_abs, q_len, q_lent1, q_lenr, q_ixl, q_ixt, q_ixr, q_trub, q_trun, q_trui, q_trul, q_trut, q_isn, q_isNn, q_isiT, at0, at1, at2, ixN1, ixN2, startE, List.map_cons, List.map_nil, List.length_cons, List.length_nil, List.replicate, List.cons_append, List.nil_append, List.getElem?_cons_zero, List.getElem?_cons_succ, List.set_cons_zero, List.set_cons_succ, Option.map_some, Option.bind_some, Option.map_none, Option.bind_none, Nat.reduceAdd, Nat.reduceSub, if_true, if_false, Bool.false_eq_true, decide_true, decide_false, Bool.not_true, Bool.not_false, reduceIte, List.length_map, e, hi, isNonD, dueB, Bool.true_and, ha, Bool.false_and]
        · simp only [q_bind, q_bindx, q_s, q_sx, q_nx, q_rt, q_bk, q_ct, q_ex, q_seq, q_nil, q_if, q_expr, q_set, q_put, q_puto, q_puta, q_lookPs, q_lookPo, q_ret0, q_ret, q_reto, q_reta, q_lookRs, q_lookRo, q_c, q_v, q_lookVs, q_lookVo, q_view, q_viewo, q_viewa, q_slots, q_sloto, q_opt, q_e1, q_e2, q_eN, q_an, q_ac, q_views0, q_views, q_shs0, q_shs, q_f, q_frz, q_frzo, q_frza, q_lookFs, q_lookFo, q_lst, q_tup, q_mkL, q_mkT, q_cB, q_cV, q_cAnd, q_cOr, q_cNot, q_eIf, q_isBl, q_eAnd, q_eOr, q_eNot, q_andT, q_andF, q_orT, q_orF, q_notK, q_ix, q_ixJ, q_lookJ, q_ixK, q_lookK, q_stK, q_call, q_callO, q_callM, q_callK, q_lookC, q_resC, q_resCx, q_lent, q_lookL, q_resM, q_resMo, q_resMn, q_resMx, q_resP, q_resPo, q_resPn, q_resPx, q_asBl, List.not_mem_nil, q_lt, q_le, q_gt, q_ge, q_add, q_sub, q_mul, q_fdiv, q_mod, q_neg, q_int, q_intb, q_abs, q_len, q_lent1, q_lenr, q_ixl, q_ixt, q_ixr, q_trub, q_trun, q_trui, q_trul, q_trut, q_isn, q_isNn, q_isiT, at0, at1, at2, ixN1, ixN2, startE, List.map_cons, List.map_nil, List.length_cons, List.length_nil, List.replicate, List.cons_append, List.nil_append, List.getElem?_cons_zero, List.getElem?_cons_succ, List.set_cons_zero, List.set_cons_succ, Option.map_some, Option.bind_some, Option.map_none, Option.bind_none, Nat.reduceAdd, Nat.reduceSub, if_true, if_false, Bool.false_eq_true, decide_true, decide_false, Bool.not_true, Bool.not_false, reduceIte, List.length_map, e, hi, isNonD, dueB, Bool.true_and, ha, Bool.false_and]
      | true =>
        rcases hm with rfl | ⟨b, rfl⟩
        · simp only [q_bind, q_bindx, q_s, q_sx, q_nx, q_rt, q_bk, q_ct, q_ex, q_seq, q_nil, q_if, q_expr, q_set, q_put, q_puto, q_puta, q_lookPs, q_lookPo, q_ret0, q_ret, q_reto, q_reta, q_lookRs, q_lookRo, q_c, q_v, q_lookVs, q_lookVo, q_view, q_viewo, q_viewa, q_slots, q_sloto, q_opt, q_e1, q_e2, q_eN, q_an, q_ac, q_views0, q_views, q_shs0, q_shs, q_f, q_frz, q_frzo, q_frza, q_lookFs, q_lookFo, q_lst, q_tup, q_mkL, q_mkT, q_cB, q_cV, q_cAnd, q_cOr, q_cNot, q_eIf, q_isBl, q_eAnd, q_eOr, q_eNot, q_andT, q_andF, q_orT, q_orF, q_notK, q_ix, q_ixJ, q_lookJ, q_ixK, q_lookK, q_stK, q_call, q_callO, q_callM, q_callK, q_lookC, q_resC, q_resCx, q_lent, q_lookL, q_resM, q_resMo, q_resMn, q_resMx, q_resP, q_resPo, q_resPn, q_resPx, q_asBl, List.not_mem_nil, q_lt, q_le, q_gt, q_ge, q_add, q_sub, q_mul, q_fdiv, q_mod, q_neg, q_int, q_intb, q_abs, q_len, q_lent1, q_lenr, q_ixl, q_ixt, q_ixr, q_trub, q_trun, q_trui, q_trul, q_trut, q_isn, q_isNn, q_isiT, at0, at1, at2, ixN1, ixN2, startE, List.map_cons, List.map_nil, List.length_cons, List.length_nil, List.replicate, List.cons_append, List.nil_append, List.getElem?_cons_zero, List.getElem?_cons_succ, List.set_cons_zero, List.set_cons_succ, Option.map_some, Option.bind_some, Option.map_none, Option.bind_none, Nat.reduceAdd, Nat.reduceSub, if_true, if_false, Bool.false_eq_true, decide_true, decide_false, Bool.not_true, Bool.not_false, reduceIte, List.length_map, e, hi, isNonD, dueB, Bool.true_and, ha]
        · simp only [q_bind, q_bindx, q_s, q_sx, q_nx, q_rt, q_bk, q_ct, q_ex, q_seq, q_nil, q_if, q_expr, q_set, q_put, q_puto, q_puta, q_lookPs, q_lookPo, q_ret0, q_ret, q_reto, q_reta, q_lookRs, q_lookRo, q_c, q_v, q_lookVs, q_lookVo, q_view, q_viewo, q_viewa, q_slots, q_sloto, q_opt, q_e1, q_e2, q_eN, q_an, q_ac, q_views0, q_views, q_shs0, q_shs, q_f, q_frz, q_frzo, q_frza, q_lookFs, q_lookFo, q_lst, q_tup, q_mkL, q_mkT, q_cB, q_cV, q_cAnd, q_cOr, q_cNot, q_eIf, q_isBl, q_eAnd, q_eOr, q_eNot, q_andT, q_andF, q_orT, q_orF, q_notK, q_ix, q_ixJ, q_lookJ, q_ixK, q_lookK, q_stK, q_call, q_callO, q_callM, q_callK, q_lookC, q_resC, q_resCx, q_lent, q_lookL, q_resM, q_resMo, q_resMn, q_resMx, q_resP, q_resPo, q_resPn, q_resPx, q_asBl, List.not_mem_nil, q_lt, q_le, q_gt, q_ge, q_add, q_sub, q_mul, q_fdiv, q_mod, q_neg, q_int, q_intb, q_abs, q_len, q_lent1, q_lenr, q_ixl, q_ixt, q_ixr, q_trub, q_trun, q_trui, q_trul, q_trut, q_isn, q_isNn, q_isiT, at0, at1, at2, ixN1, ixN2, startE, List.map_cons, List.map_nil, List.length_cons, List.length_nil, List.replicate, List.cons_append, List.nil_append, List.getElem?_cons_zero, List.getElem?_cons_succ, List.set_cons_zero, List.set_cons_succ, Option.map_some, Option.bind_some, Option.map_none, Option.bind_none, Nat.reduceAdd, Nat.reduceSub, if_true, if_false, Bool.false_eq_true, decide_true, decide_false, Bool.not_true, Bool.not_false, reduceIte, List.length_map, e, hi, isNonD, dueB, Bool.true_and, ha]
/-! what is drawn -/
def VT (t : T) : Prop := (∃ d, t = .sh d ∧ Ok2 d ∧ ∀ xs, d = .lst xs ∨ d = .tup xs → xs.length ≤ 10) ∨ ∃ xs, t = .own xs ∧ (∀ x ∈ xs, Plain x) ∧ xs.length ≤ 10
def cost : Nat → Nat
  | 0 => 0
  | k + 1 => 6 + 3 * cost k
theorem plain_of {t : T} (h : VT t) : ∃ d, (∀ m ρ, frzK m t ρ = .ok (.sh d) ρ) ∧ Plain d := by
  rcases h with ⟨d, rfl, h, _⟩ | ⟨xs, rfl, h⟩
  · exact ⟨d, fun _ _ => rfl, h.1⟩
  · exact ⟨.lst xs, fun _ _ => rfl, ⟨_, rfl⟩⟩
theorem ok2_flat {d : D} (h : Plain d) (hn : ∀ xs, ¬ (d = .lst xs ∨ d = .tup xs)) : Ok2 d ∧ ∀ xs, d = .lst xs ∨ d = .tup xs → xs.length ≤ 10 := ⟨⟨h, fun xs hx => (hn xs hx).elim⟩, fun xs hx => (hn xs hx).elim⟩
theorem rng_small {k : Int} (h0 : 0 ≤ k) (h3 : k ≤ 3) : rng1 [.int k] = some (rngD 0 k) ∧ (rngD 0 k).length ≤ 3 := by
  refine ⟨?_, ?_⟩
  · have : i62 k = true := by unfold i62; exact decide_eq_true (by omega)
    show (if i62 k = true then some (rngD 0 k) else none) = _
    rw [if_pos this]
  · unfold rngD
    rw [List.length_map, List.length_range]
    omega
theorem value_ok : ∀ (k : Nat) (deep : Int) (n : Nat) (ds : List D), 0 ≤ deep → deep < k → Src n ds → n + cost k ≤ 1000000 → ∃ t ds', d__law_value k ds [.int deep] = .ok t ds' ∧ VT t ∧ Src (n + cost k) ds' := by
  intro k
  induction k with
  | zero => intro deep n ds h1 h2; omega
  | succ k ih =>
    intro deep n ds h0 hk h hn
    have hc : cost (k + 1) = 6 + 3 * cost k := rfl
    obtain ⟨way, d1, e1, w0, w1, s1⟩ := drifts h (many := 8) (by omega) (by decide) (by decide)
    have main : ∃ t ds', denM 2 5 (g__law_value (d__law_value k)) ds [.int deep] = .ok t ds' ∧ VT t ∧ Src (n + cost (k + 1)) ds' := by
      by_cases hA : way < 4 ∨ deep = 0
      · obtain ⟨i, d2, e2, s2⟩ := integer_ok s1 (by omega)
        refine ⟨.sh (.int i), d2, ?_, .inl ⟨_, rfl, ok2_flat ⟨_, rfl⟩ fun xs hx => by rcases hx with hx | hx <;> cases hx⟩, s2.mono (by omega)⟩
        refine (q_denM rfl).trans ?_
        unfold g__law_value
        by_cases hw : way < 4
        · simp only [q_bind, q_bindx, q_s, q_sx, q_nx, q_rt, q_bk, q_ct, q_ex, q_seq, q_nil, q_if, q_expr, q_set, q_put, q_puto, q_puta, q_lookPs, q_lookPo, q_ret0, q_ret, q_reto, q_reta, q_lookRs, q_lookRo, q_c, q_v, q_lookVs, q_lookVo, q_view, q_viewo, q_viewa, q_slots, q_sloto, q_opt, q_e1, q_e2, q_eN, q_an, q_ac, q_views0, q_views, q_shs0, q_shs, q_f, q_frz, q_frzo, q_frza, q_lookFs, q_lookFo, q_lst, q_tup, q_mkL, q_mkT, q_cB, q_cV, q_cAnd, q_cOr, q_cNot, q_eIf, q_isBl, q_eAnd, q_eOr, q_eNot, q_andT, q_andF, q_orT, q_orF, q_notK, q_ix, q_ixJ, q_lookJ, q_ixK, q_lookK, q_stK, q_call, q_callO, q_callM, q_callK, q_lookC, q_resC, q_resCx, q_lent, q_lookL, q_resM, q_resMo, q_resMn, q_resMx, q_resP, q_resPo, q_resPn, q_resPx, q_asBl, List.not_mem_nil, q_lt, q_le, q_gt, q_ge, q_add, q_sub, q_mul, q_fdiv, q_mod, q_neg, q_int, q_intb, q_abs, q_len, q_lent1, q_lenr, q_ixl, q_ixt, q_ixr, q_trub, q_trun, q_trui, q_trul, q_trut, q_isn, q_isNn, q_isiT, at0, at1, at2, ixN1, ixN2, startE, List.map_cons, List.map_nil, List.length_cons, List.length_nil, List.replicate, List.cons_append, List.nil_append, List.getElem?_cons_zero, List.getElem?_cons_succ, List.set_cons_zero, List.set_cons_succ, Option.map_some, Option.bind_some, Option.map_none, Option.bind_none, Nat.reduceAdd, Nat.reduceSub, if_true, if_false, Bool.false_eq_true, decide_true, decide_false, Bool.not_true, Bool.not_false, reduceIte, List.length_map, e1, hw, e2]
        · have hd : (deep == 0) = true := beq_iff_eq.mpr (hA.resolve_left hw)
          simp only [q_bind, q_bindx, q_s, q_sx, q_nx, q_rt, q_bk, q_ct, q_ex, q_seq, q_nil, q_if, q_expr, q_set, q_put, q_puto, q_puta, q_lookPs, q_lookPo, q_ret0, q_ret, q_reto, q_reta, q_lookRs, q_lookRo, q_c, q_v, q_lookVs, q_lookVo, q_view, q_viewo, q_viewa, q_slots, q_sloto, q_opt, q_e1, q_e2, q_eN, q_an, q_ac, q_views0, q_views, q_shs0, q_shs, q_f, q_frz, q_frzo, q_frza, q_lookFs, q_lookFo, q_lst, q_tup, q_mkL, q_mkT, q_cB, q_cV, q_cAnd, q_cOr, q_cNot, q_eIf, q_isBl, q_eAnd, q_eOr, q_eNot, q_andT, q_andF, q_orT, q_orF, q_notK, q_ix, q_ixJ, q_lookJ, q_ixK, q_lookK, q_stK, q_call, q_callO, q_callM, q_callK, q_lookC, q_resC, q_resCx, q_lent, q_lookL, q_resM, q_resMo, q_resMn, q_resMx, q_resP, q_resPo, q_resPn, q_resPx, q_asBl, List.not_mem_nil, q_lt, q_le, q_gt, q_ge, q_add, q_sub, q_mul, q_fdiv, q_mod, q_neg, q_int, q_intb, q_abs, q_len, q_lent1, q_lenr, q_ixl, q_ixt, q_ixr, q_trub, q_trun, q_trui, q_trul, q_trut, q_isn, q_isNn, q_isiT, at0, at1, at2, ixN1, ixN2, startE, List.map_cons, List.map_nil, List.length_cons, List.length_nil, List.replicate, List.cons_append, List.nil_append, List.getElem?_cons_zero, List.getElem?_cons_succ, List.set_cons_zero, List.set_cons_succ, Option.map_some, Option.bind_some, Option.map_none, Option.bind_none, Nat.reduceAdd, Nat.reduceSub, if_true, if_false, Bool.false_eq_true, decide_true, decide_false, Bool.not_true, Bool.not_false, reduceIte, List.length_map, e1, hw, eq_int, hd, e2]
      · have hw : ¬ way < 4 := fun z => hA (.inl z)
        have hd : (deep == 0) = false := beq_eq_false_iff_ne.mpr fun z => hA (.inr z)
        have hd0 : 0 < deep := by have := fun z => hA (.inr z); omega
        by_cases h4 : way = 4
        · subst h4
          obtain ⟨_, d, d2, e2, _, hm, s2⟩ := picks s1 (xs := [.non, .bl true, .bl false, .str "1", .str "", .str "12", .dk (mergeD [] []), .tup [], .lst [], .dk (mergeD [] [(.inl 0, .int 1)]), .tup [.int 1, .int 2, .int 3]]) (by omega) (by simp) (by simp only [List.length_cons, List.length_nil]; omega)
          refine ⟨.sh d, d2, ?_, .inl ⟨d, rfl, ?_⟩, s2.mono (by omega)⟩
          · refine (q_denM rfl).trans ?_
            unfold g__law_value
            have f4 : ((4 : Int) == 4) = true := rfl
            have sz0 : (0 : Nat) ≤ sizeLine := Nat.zero_le _
            have sz3 : (0 : Nat) + 1 + 1 + 1 ≤ sizeLine := by decide
            have sz11 : (0 : Nat) + 1 + 1 + 1 + 1 + 1 + 1 + 1 + 1 + 1 + 1 + 1 ≤ sizeLine := by decide
            simp only [q_bind, q_bindx, q_s, q_sx, q_nx, q_rt, q_bk, q_ct, q_ex, q_seq, q_nil, q_if, q_expr, q_set, q_put, q_puto, q_puta, q_lookPs, q_lookPo, q_ret0, q_ret, q_reto, q_reta, q_lookRs, q_lookRo, q_c, q_v, q_lookVs, q_lookVo, q_view, q_viewo, q_viewa, q_slots, q_sloto, q_opt, q_e1, q_e2, q_eN, q_an, q_ac, q_views0, q_views, q_shs0, q_shs, q_f, q_frz, q_frzo, q_frza, q_lookFs, q_lookFo, q_lst, q_tup, q_mkL, q_mkT, q_cB, q_cV, q_cAnd, q_cOr, q_cNot, q_eIf, q_isBl, q_eAnd, q_eOr, q_eNot, q_andT, q_andF, q_orT, q_orF, q_notK, q_ix, q_ixJ, q_lookJ, q_ixK, q_lookK, q_stK, q_call, q_callO, q_callM, q_callK, q_lookC, q_resC, q_resCx, q_lent, q_lookL, q_resM, q_resMo, q_resMn, q_resMx, q_resP, q_resPo, q_resPn, q_resPx, q_asBl, List.not_mem_nil, q_lt, q_le, q_gt, q_ge, q_add, q_sub, q_mul, q_fdiv, q_mod, q_neg, q_int, q_intb, q_abs, q_len, q_lent1, q_lenr, q_ixl, q_ixt, q_ixr, q_trub, q_trun, q_trui, q_trul, q_trut, q_isn, q_isNn, q_isiT, at0, at1, at2, ixN1, ixN2, startE, List.map_cons, List.map_nil, List.length_cons, List.length_nil, List.replicate, List.cons_append, List.nil_append, List.getElem?_cons_zero, List.getElem?_cons_succ, List.set_cons_zero, List.set_cons_succ, Option.map_some, Option.bind_some, Option.map_none, Option.bind_none, Nat.reduceAdd, Nat.reduceSub, if_true, if_false, Bool.false_eq_true, decide_true, decide_false, Bool.not_true, Bool.not_false, reduceIte, List.length_map, e1, hw, eq_int, hd, f4, e2, eDict, sz0, sz3, sz11]
          · have nil2 : ∀ x : D, x ∈ ([] : List D) → Plain x := fun x hx => (nomatch hx)
            simp only [List.mem_cons, List.not_mem_nil, or_false] at hm
            rcases hm with h | h | h | h | h | h | h | h | h | h | h <;> subst h
            · exact ok2_flat ⟨_, rfl⟩ fun xs hx => by rcases hx with hx | hx <;> cases hx
            · exact ok2_flat ⟨_, rfl⟩ fun xs hx => by rcases hx with hx | hx <;> cases hx
            · exact ok2_flat ⟨_, rfl⟩ fun xs hx => by rcases hx with hx | hx <;> cases hx
            · exact ok2_flat ⟨_, rfl⟩ fun xs hx => by rcases hx with hx | hx <;> cases hx
            · exact ok2_flat ⟨_, rfl⟩ fun xs hx => by rcases hx with hx | hx <;> cases hx
            · exact ok2_flat ⟨_, rfl⟩ fun xs hx => by rcases hx with hx | hx <;> cases hx
            · exact ok2_flat ⟨_, rfl⟩ fun xs hx => by rcases hx with hx | hx <;> cases hx
            · exact ⟨⟨⟨_, rfl⟩, fun xs hx => by rcases hx with hx | hx <;> cases hx; exact nil2⟩, fun xs hx => by rcases hx with hx | hx <;> cases hx; decide⟩
            · exact ⟨⟨⟨_, rfl⟩, fun xs hx => by rcases hx with hx | hx <;> cases hx; exact nil2⟩, fun xs hx => by rcases hx with hx | hx <;> cases hx; decide⟩
            · exact ok2_flat ⟨_, rfl⟩ fun xs hx => by rcases hx with hx | hx <;> cases hx
            · refine ⟨⟨⟨_, rfl⟩, fun xs hx => ?_⟩, fun xs hx => ?_⟩
              · rcases hx with hx | hx <;> cases hx
                intro x hx
                simp only [List.mem_cons, List.not_mem_nil, or_false] at hx
                rcases hx with rfl | rfl | rfl <;> exact ⟨_, rfl⟩
              · rcases hx with hx | hx <;> cases hx
                simp only [List.length_cons, List.length_nil]; omega
        · have f4 : (way == 4) = false := beq_eq_false_iff_ne.mpr h4
          obtain ⟨_, d, d2, e2, _, hm, s2⟩ := picks s1 (xs := [.int 2, .int 2, .int 2, .int 1, .int 3]) (by omega) (by simp) (by simp only [List.length_cons, List.length_nil]; omega)
          obtain ⟨j, rfl, j0, j3⟩ : ∃ j : Int, d = .int j ∧ 0 ≤ j ∧ j ≤ 3 := by
            simp only [List.mem_cons, List.not_mem_nil, or_false] at hm
            rcases hm with h | h | h | h | h <;> exact ⟨_, h, by decide, by decide⟩
          obtain ⟨er, lr⟩ := rng_small j0 j3
          obtain ⟨xs, ρ', e3, l3, p3, I3⟩ := lcD_all (m := [0]) (vs := [4]) (gt := gN 4) (fe := eCallM (d__law_value k) (aCons (eV 0) (aCons (Pf.e2 subD (eV 1) (eC (.int 1))) (aNil)))) (items := rngD 0 j)
            (fun i ρ => ∃ ds', ρ = [some (.own ds'), some (.sh (.int deep)), some (.sh (.int way)), none, none] ∧ Src (n + 2 + i * cost k) ds') Plain
            (fun i x ρ hx ⟨ds', eρ, s⟩ => by
              subst eρ
              have hi : i < (rngD 0 j).length := (List.getElem?_eq_some_iff.mp hx).1
              have hi3 : i ≤ 2 := by omega
              have hb : i * cost k ≤ 2 * cost k := Nat.mul_le_mul_right _ hi3
              obtain ⟨t, ds2, e4, vt, s4⟩ := ih (deep - 1) _ ds' (by omega) (by omega) s (by omega)
              obtain ⟨y, fy, py⟩ := plain_of vt
              refine ⟨_, y, [some (.own ds2), some (.sh (.int deep)), some (.sh (.int way)), none, some (.sh x)], rfl, ?_, py, ds2, rfl, s4.mono (by rw [Nat.add_mul, Nat.one_mul]; omega)⟩
              simp only [q_bind, q_bindx, q_s, q_sx, q_nx, q_rt, q_bk, q_ct, q_ex, q_seq, q_nil, q_if, q_expr, q_set, q_put, q_puto, q_puta, q_lookPs, q_lookPo, q_ret0, q_ret, q_reto, q_reta, q_lookRs, q_lookRo, q_c, q_v, q_lookVs, q_lookVo, q_view, q_viewo, q_viewa, q_slots, q_sloto, q_opt, q_e1, q_e2, q_eN, q_an, q_ac, q_views0, q_views, q_shs0, q_shs, q_f, q_frz, q_frzo, q_frza, q_lookFs, q_lookFo, q_lst, q_tup, q_mkL, q_mkT, q_cB, q_cV, q_cAnd, q_cOr, q_cNot, q_eIf, q_isBl, q_eAnd, q_eOr, q_eNot, q_andT, q_andF, q_orT, q_orF, q_notK, q_ix, q_ixJ, q_lookJ, q_ixK, q_lookK, q_stK, q_call, q_callO, q_callM, q_callK, q_lookC, q_resC, q_resCx, q_lent, q_lookL, q_resM, q_resMo, q_resMn, q_resMx, q_resP, q_resPo, q_resPn, q_resPx, q_asBl, List.not_mem_nil, q_lt, q_le, q_gt, q_ge, q_add, q_sub, q_mul, q_fdiv, q_mod, q_neg, q_int, q_intb, q_abs, q_len, q_lent1, q_lenr, q_ixl, q_ixt, q_ixr, q_trub, q_trun, q_trui, q_trul, q_trut, q_isn, q_isNn, q_isiT, at0, at1, at2, ixN1, ixN2, startE, List.map_cons, List.map_nil, List.length_cons, List.length_nil, List.replicate, List.cons_append, List.nil_append, List.getElem?_cons_zero, List.getElem?_cons_succ, List.set_cons_zero, List.set_cons_succ, Option.map_some, Option.bind_some, Option.map_none, Option.bind_none, Nat.reduceAdd, Nat.reduceSub, if_true, if_false, Bool.false_eq_true, decide_true, decide_false, Bool.not_true, Bool.not_false, reduceIte, List.length_map, e4, fy])
            (ρ := [some (.own d2), some (.sh (.int deep)), some (.sh (.int way)), none, none]) (Nat.le_trans lr (by decide)) ⟨d2, rfl, by rw [Nat.zero_mul]; exact s2⟩
          obtain ⟨d3, rfl, s3⟩ := I3
          have hb : (rngD 0 j).length * cost k ≤ 3 * cost k := Nat.mul_le_mul_right _ lr
          have sz5 : (0 : Nat) + 1 + 1 + 1 + 1 + 1 ≤ sizeLine := by decide
          by_cases h7 : way < 7
          · refine ⟨.own xs, d3, ?_, .inr ⟨xs, rfl, p3, by omega⟩, s3.mono (by omega)⟩
            refine (q_denM rfl).trans ?_
            unfold g__law_value
            simp only [q_bind, q_bindx, q_s, q_sx, q_nx, q_rt, q_bk, q_ct, q_ex, q_seq, q_nil, q_if, q_expr, q_set, q_put, q_puto, q_puta, q_lookPs, q_lookPo, q_ret0, q_ret, q_reto, q_reta, q_lookRs, q_lookRo, q_c, q_v, q_lookVs, q_lookVo, q_view, q_viewo, q_viewa, q_slots, q_sloto, q_opt, q_e1, q_e2, q_eN, q_an, q_ac, q_views0, q_views, q_shs0, q_shs, q_f, q_frz, q_frzo, q_frza, q_lookFs, q_lookFo, q_lst, q_tup, q_mkL, q_mkT, q_cB, q_cV, q_cAnd, q_cOr, q_cNot, q_eIf, q_isBl, q_eAnd, q_eOr, q_eNot, q_andT, q_andF, q_orT, q_orF, q_notK, q_ix, q_ixJ, q_lookJ, q_ixK, q_lookK, q_stK, q_call, q_callO, q_callM, q_callK, q_lookC, q_resC, q_resCx, q_lent, q_lookL, q_resM, q_resMo, q_resMn, q_resMx, q_resP, q_resPo, q_resPn, q_resPx, q_asBl, List.not_mem_nil, q_lt, q_le, q_gt, q_ge, q_add, q_sub, q_mul, q_fdiv, q_mod, q_neg, q_int, q_intb, q_abs, q_len, q_lent1, q_lenr, q_ixl, q_ixt, q_ixr, q_trub, q_trun, q_trui, q_trul, q_trut, q_isn, q_isNn, q_isiT, at0, at1, at2, ixN1, ixN2, startE, List.map_cons, List.map_nil, List.length_cons, List.length_nil, List.replicate, List.cons_append, List.nil_append, List.getElem?_cons_zero, List.getElem?_cons_succ, List.set_cons_zero, List.set_cons_succ, Option.map_some, Option.bind_some, Option.map_none, Option.bind_none, Nat.reduceAdd, Nat.reduceSub, if_true, if_false, Bool.false_eq_true, decide_true, decide_false, Bool.not_true, Bool.not_false, reduceIte, List.length_map, e1, hw, eq_int, hd, f4, e2, sz5, q_lc, q_iR, er, wipeE, e3, q_lcK, unw, ksh, h7]
            rfl
          · refine ⟨.sh (.tup xs), d3, ?_, .inl ⟨_, rfl, ⟨⟨_, rfl⟩, fun ys hy => by rcases hy with hy | hy <;> cases hy; exact p3⟩, fun ys hy => by rcases hy with hy | hy <;> cases hy; omega⟩, s3.mono (by omega)⟩
            refine (q_denM rfl).trans ?_
            unfold g__law_value
            have tp : tupleD [.lst xs] = some (.sh (.tup xs)) := rfl
            simp only [q_bind, q_bindx, q_s, q_sx, q_nx, q_rt, q_bk, q_ct, q_ex, q_seq, q_nil, q_if, q_expr, q_set, q_put, q_puto, q_puta, q_lookPs, q_lookPo, q_ret0, q_ret, q_reto, q_reta, q_lookRs, q_lookRo, q_c, q_v, q_lookVs, q_lookVo, q_view, q_viewo, q_viewa, q_slots, q_sloto, q_opt, q_e1, q_e2, q_eN, q_an, q_ac, q_views0, q_views, q_shs0, q_shs, q_f, q_frz, q_frzo, q_frza, q_lookFs, q_lookFo, q_lst, q_tup, q_mkL, q_mkT, q_cB, q_cV, q_cAnd, q_cOr, q_cNot, q_eIf, q_isBl, q_eAnd, q_eOr, q_eNot, q_andT, q_andF, q_orT, q_orF, q_notK, q_ix, q_ixJ, q_lookJ, q_ixK, q_lookK, q_stK, q_call, q_callO, q_callM, q_callK, q_lookC, q_resC, q_resCx, q_lent, q_lookL, q_resM, q_resMo, q_resMn, q_resMx, q_resP, q_resPo, q_resPn, q_resPx, q_asBl, List.not_mem_nil, q_lt, q_le, q_gt, q_ge, q_add, q_sub, q_mul, q_fdiv, q_mod, q_neg, q_int, q_intb, q_abs, q_len, q_lent1, q_lenr, q_ixl, q_ixt, q_ixr, q_trub, q_trun, q_trui, q_trul, q_trut, q_isn, q_isNn, q_isiT, at0, at1, at2, ixN1, ixN2, startE, List.map_cons, List.map_nil, List.length_cons, List.length_nil, List.replicate, List.cons_append, List.nil_append, List.getElem?_cons_zero, List.getElem?_cons_succ, List.set_cons_zero, List.set_cons_succ, Option.map_some, Option.bind_some, Option.map_none, Option.bind_none, Nat.reduceAdd, Nat.reduceSub, if_true, if_false, Bool.false_eq_true, decide_true, decide_false, Bool.not_true, Bool.not_false, reduceIte, List.length_map, e1, hw, eq_int, hd, f4, e2, sz5, q_lc, q_iR, er, wipeE, e3, q_lcK, unw, ksh, h7, tp]
    exact main
theorem dune (ns : List Int) (h1 : ns.length ≤ 63) (h2 : ∀ z ∈ ns, Builtin.Int.intBits z ≤ 1048576) : ∃ ds, d__law_dune [.rol (ns.map D.int)] = .ok (.own ds) ∧ Src 0 ds := dune_ok ns h1 h2
def dueT : Env → R T := eAnd (eCall d__law_is_integer (aCons (eF [] (eV 3)) (aNil))) (eAnd (eOr (e2 (asBl isD) (eV 4) (eC .non)) (e2 (asBl leD) (eV 4) (eV 3))) (eOr (e2 (asBl isD) (eV 5) (eC .non)) (e2 (asBl leD) (eV 3) (eV 5))))
theorem due_ok {v l m : D} {a0 a1 a2 a6 a7 : Option T} (hv : Plain v) (hl : LM l) (hm : LM m) : dueT [a0, a1, a2, some (.sh v), some (.sh l), some (.sh m), a6, a7] = .ok (.sh (.bl (dueB v l m))) [a0, a1, a2, some (.sh v), some (.sh l), some (.sh m), a6, a7] := by
  have e := fun ρ => callP_ok (ρ := ρ) (is_integer2_ok hv)
  unfold dueT
  cases hi : isI v with
  | false =>
    rw [due_no hi]
    simp only [q_bind, q_bindx, q_s, q_sx, q_nx, q_rt, q_bk, q_ct, q_ex, q_seq, q_nil, q_if, q_expr, q_set, q_put, q_puto, q_puta, q_lookPs, q_lookPo, q_ret0, q_ret, q_reto, q_reta, q_lookRs, q_lookRo, q_c, q_v, q_lookVs, q_lookVo, q_view, q_viewo, q_viewa, q_slots, q_sloto, q_opt, q_e1, q_e2, q_eN, q_an, q_ac, q_views0, q_views, q_shs0, q_shs, q_f, q_frz, q_frzo, q_frza, q_lookFs, q_lookFo, q_lst, q_tup, q_mkL, q_mkT, q_cB, q_cV, q_cAnd, q_cOr, q_cNot, q_eIf, q_isBl, q_eAnd, q_eOr, q_eNot, q_andT, q_andF, q_orT, q_orF, q_notK, q_ix, q_ixJ, q_lookJ, q_ixK, q_lookK, q_stK, q_call, q_callO, q_callM, q_callK, q_lookC, q_resC, q_resCx, q_lent, q_lookL, q_resM, q_resMo, q_resMn, q_resMx, q_resP, q_resPo, q_resPn, q_resPx, q_asBl, List.not_mem_nil, q_lt, q_le, q_gt, q_ge, q_add, q_sub, q_mul, q_fdiv, q_mod, q_neg, q_int, q_intb, q_abs, q_len, q_lent1, q_lenr, q_ixl, q_ixt, q_ixr, q_trub, q_trun, q_trui, q_trul, q_trut, q_isn, q_isNn, q_isiT, at0, at1, at2, ixN1, ixN2, startE, List.map_cons, List.map_nil, List.length_cons, List.length_nil, List.replicate, List.cons_append, List.nil_append, List.getElem?_cons_zero, List.getElem?_cons_succ, List.set_cons_zero, List.set_cons_succ, Option.map_some, Option.bind_some, Option.map_none, Option.bind_none, Nat.reduceAdd, Nat.reduceSub, if_true, if_false, Bool.false_eq_true, decide_true, decide_false, Bool.not_true, Bool.not_false, reduceIte, List.length_map, e, hi]
  | true =>
    obtain ⟨i, rfl⟩ := isI_int hi
    rcases hl with rfl | ⟨a, rfl⟩
    · rcases hm with rfl | ⟨b, rfl⟩
      · simp only [q_bind, q_bindx, q_s, q_sx, q_nx, q_rt, q_bk, q_ct, q_ex, q_seq, q_nil, q_if, q_expr, q_set, q_put, q_puto, q_puta, q_lookPs, q_lookPo, q_ret0, q_ret, q_reto, q_reta, q_lookRs, q_lookRo, q_c, q_v, q_lookVs, q_lookVo, q_view, q_viewo, q_viewa, q_slots, q_sloto, q_opt, q_e1, q_e2, q_eN, q_an, q_ac, q_views0, q_views, q_shs0, q_shs, q_f, q_frz, q_frzo, q_frza, q_lookFs, q_lookFo, q_lst, q_tup, q_mkL, q_mkT, q_cB, q_cV, q_cAnd, q_cOr, q_cNot, q_eIf, q_isBl, q_eAnd, q_eOr, q_eNot, q_andT, q_andF, q_orT, q_orF, q_notK, q_ix, q_ixJ, q_lookJ, q_ixK, q_lookK, q_stK, q_call, q_callO, q_callM, q_callK, q_lookC, q_resC, q_resCx, q_lent, q_lookL, q_resM, q_resMo, q_resMn, q_resMx, q_resP, q_resPo, q_resPn, q_resPx, q_asBl, List.not_mem_nil, q_lt, q_le, q_gt, q_ge, q_add, q_sub, q_mul, q_fdiv, q_mod, q_neg, q_int, q_intb, q_abs, q_len, q_lent1, q_lenr, q_ixl, q_ixt, q_ixr, q_trub, q_trun, q_trui, q_trul, q_trut, q_isn, q_isNn, q_isiT, at0, at1, at2, ixN1, ixN2, startE, List.map_cons, List.map_nil, List.length_cons, List.length_nil, List.replicate, List.cons_append, List.nil_append, List.getElem?_cons_zero, List.getElem?_cons_succ, List.set_cons_zero, List.set_cons_succ, Option.map_some, Option.bind_some, Option.map_none, Option.bind_none, Nat.reduceAdd, Nat.reduceSub, if_true, if_false, Bool.false_eq_true, decide_true, decide_false, Bool.not_true, Bool.not_false, reduceIte, List.length_map, e, hi, isNonD, dueB, Bool.true_and]
      · simp only [q_bind, q_bindx, q_s, q_sx, q_nx, q_rt, q_bk, q_ct, q_ex, q_seq, q_nil, q_if, q_expr, q_set, q_put, q_puto, q_puta, q_lookPs, q_lookPo, q_ret0, q_ret, q_reto, q_reta, q_lookRs, q_lookRo, q_c, q_v, q_lookVs, q_lookVo, q_view, q_viewo, q_viewa, q_slots, q_sloto, q_opt, q_e1, q_e2, q_eN, q_an, q_ac, q_views0, q_views, q_shs0, q_shs, q_f, q_frz, q_frzo, q_frza, q_lookFs, q_lookFo, q_lst, q_tup, q_mkL, q_mkT, q_cB, q_cV, q_cAnd, q_cOr, q_cNot, q_eIf, q_isBl, q_eAnd, q_eOr, q_eNot, q_andT, q_andF, q_orT, q_orF, q_notK, q_ix, q_ixJ, q_lookJ, q_ixK, q_lookK, q_stK, q_call, q_callO, q_callM, q_callK, q_lookC, q_resC, q_resCx, q_lent, q_lookL, q_resM, q_resMo, q_resMn, q_resMx, q_resP, q_resPo, q_resPn, q_resPx, q_asBl, List.not_mem_nil, q_lt, q_le, q_gt, q_ge, q_add, q_sub, q_mul, q_fdiv, q_mod, q_neg, q_int, q_intb, q_abs, q_len, q_lent1, q_lenr, q_ixl, q_ixt, q_ixr, q_trub, q_trun, q_trui, q_trul, q_trut, q_isn, q_isNn, q_isiT, at0, at1, at2, ixN1, ixN2, startE, List.map_cons, List.map_nil, List.length_cons, List.length_nil, List.replicate, List.cons_append, List.nil_append, List.getElem?_cons_zero, List.getElem?_cons_succ, List.set_cons_zero, List.set_cons_succ, Option.map_some, Option.bind_some, Option.map_none, Option.bind_none, Nat.reduceAdd, Nat.reduceSub, if_true, if_false, Bool.false_eq_true, decide_true, decide_false, Bool.not_true, Bool.not_false, reduceIte, List.length_map, e, hi, isNonD, dueB, Bool.true_and]
    · cases ha : decide (a ≤ i) with
      | false =>
        rcases hm with rfl | ⟨b, rfl⟩
        · simp only [q_bind, q_bindx, q_s, q_sx, q_nx, q_rt, q_bk, q_ct, q_ex, q_seq, q_nil, q_if, q_expr, q_set, q_put, q_puto, q_puta, q_lookPs, q_lookPo, q_ret0, q_ret, q_reto, q_reta, q_lookRs, q_lookRo, q_c, q_v, q_lookVs, q_lookVo, q_view, q_viewo, q_viewa, q_slots, q_sloto, q_opt, q_e1, q_e2, q_eN, q_an, q_ac, q_views0, q_views, q_shs0, q_shs, q_f, q_frz, q_frzo, q_frza, q_lookFs, q_lookFo, q_lst, q_tup, q_mkL, q_mkT, q_cB, q_cV, q_cAnd, q_cOr, q_cNot, q_eIf, q_isBl, q_eAnd, q_eOr, q_eNot, q_andT, q_andF, q_orT, q_orF, q_notK, q_ix, q_ixJ, q_lookJ, q_ixK, q_lookK, q_stK, q_call, q_callO, q_callM, q_callK, q_lookC, q_resC, q_resCx, q_lent, q_lookL, q_resM, q_resMo, q_resMn, q_resMx, q_resP, q_resPo, q_resPn, q_resPx, q_asBl, List.not_mem_nil, q_lt, q_le, q_gt, q_ge, q_add, q_sub, q_mul, q_fdiv, q_mod, q_neg, q_int, q_intb, q_abs, q_len, q_lent1, q_lenr, q_ixl, q_ixt, q_ixr, q_trub, q_trun, q_trui, q_trul, q_trut, q_isn, q_isNn, q_isiT, at0, at1, at2, ixN1, ixN2, startE, List.map_cons, List.map_nil, List.length_cons, List.length_nil, List.replicate, List.cons_append, List.nil_append, List.getElem?_cons_zero, List.getElem?_cons_succ, List.set_cons_zero, List.set_cons_succ, Option.map_some, Option.bind_some, Option.map_none, Option.bind_none, Nat.reduceAdd, Nat.reduceSub, if_true, if_false, Bool.false_eq_true, decide_true, decide_false, Bool.not_true, Bool.not_false, reduceIte, List.length_map, e, hi, isNonD, dueB, Bool.true_and, ha, Bool.false_and]
        · simp only [q_bind, q_bindx, q_s, q_sx, q_nx, q_rt, q_bk, q_ct, q_ex, q_seq, q_nil, q_if, q_expr, q_set, q_put, q_puto, q_puta, q_lookPs, q_lookPo, q_ret0, q_ret, q_reto, q_reta, q_lookRs, q_lookRo, q_c, q_v, q_lookVs, q_lookVo, q_view, q_viewo, q_viewa, q_slots, q_sloto, q_opt, q_e1, q_e2, q_eN, q_an, q_ac, q_views0, q_views, q_shs0, q_shs, q_f, q_frz, q_frzo, q_frza, q_lookFs, q_lookFo, q_lst, q_tup, q_mkL, q_mkT, q_cB, q_cV, q_cAnd, q_cOr, q_cNot, q_eIf, q_isBl, q_eAnd, q_eOr, q_eNot, q_andT, q_andF, q_orT, q_orF, q_notK, q_ix, q_ixJ, q_lookJ, q_ixK, q_lookK, q_stK, q_call, q_callO, q_callM, q_callK, q_lookC, q_resC, q_resCx, q_lent, q_lookL, q_resM, q_resMo, q_resMn, q_resMx, q_resP, q_resPo, q_resPn, q_resPx, q_asBl, List.not_mem_nil, q_lt, q_le, q_gt, q_ge, q_add, q_sub, q_mul, q_fdiv, q_mod, q_neg, q_int, q_intb, q_abs, q_len, q_lent1, q_lenr, q_ixl, q_ixt, q_ixr, q_trub, q_trun, q_trui, q_trul, q_trut, q_isn, q_isNn, q_isiT, at0, at1, at2, ixN1, ixN2, startE, List.map_cons, List.map_nil, List.length_cons, List.length_nil, List.replicate, List.cons_append, List.nil_append, List.getElem?_cons_zero, List.getElem?_cons_succ, List.set_cons_zero, List.set_cons_succ, Option.map_some, Option.bind_some, Option.map_none, Option.bind_none, Nat.reduceAdd, Nat.reduceSub, if_true, if_false, Bool.false_eq_true, decide_true, decide_false, Bool.not_true, Bool.not_false, reduceIte, List.length_map, e, hi, isNonD, dueB, Bool.true_and, ha, Bool.false_and]
      | true =>
        rcases hm with rfl | ⟨b, rfl⟩
        · simp only [q_bind, q_bindx, q_s, q_sx, q_nx, q_rt, q_bk, q_ct, q_ex, q_seq, q_nil, q_if, q_expr, q_set, q_put, q_puto, q_puta, q_lookPs, q_lookPo, q_ret0, q_ret, q_reto, q_reta, q_lookRs, q_lookRo, q_c, q_v, q_lookVs, q_lookVo, q_view, q_viewo, q_viewa, q_slots, q_sloto, q_opt, q_e1, q_e2, q_eN, q_an, q_ac, q_views0, q_views, q_shs0, q_shs, q_f, q_frz, q_frzo, q_frza, q_lookFs, q_lookFo, q_lst, q_tup, q_mkL, q_mkT, q_cB, q_cV, q_cAnd, q_cOr, q_cNot, q_eIf, q_isBl, q_eAnd, q_eOr, q_eNot, q_andT, q_andF, q_orT, q_orF, q_notK, q_ix, q_ixJ, q_lookJ, q_ixK, q_lookK, q_stK, q_call, q_callO, q_callM, q_callK, q_lookC, q_resC, q_resCx, q_lent, q_lookL, q_resM, q_resMo, q_resMn, q_resMx, q_resP, q_resPo, q_resPn, q_resPx, q_asBl, List.not_mem_nil, q_lt, q_le, q_gt, q_ge, q_add, q_sub, q_mul, q_fdiv, q_mod, q_neg, q_int, q_intb, q_abs, q_len, q_lent1, q_lenr, q_ixl, q_ixt, q_ixr, q_trub, q_trun, q_trui, q_trul, q_trut, q_isn, q_isNn, q_isiT, at0, at1, at2, ixN1, ixN2, startE, List.map_cons, List.map_nil, List.length_cons, List.length_nil, List.replicate, List.cons_append, List.nil_append, List.getElem?_cons_zero, List.getElem?_cons_succ, List.set_cons_zero, List.set_cons_succ, Option.map_some, Option.bind_some, Option.map_none, Option.bind_none, Nat.reduceAdd, Nat.reduceSub, if_true, if_false, Bool.false_eq_true, decide_true, decide_false, Bool.not_true, Bool.not_false, reduceIte, List.length_map, e, hi, isNonD, dueB, Bool.true_and, ha]
        · simp only [q_bind, q_bindx, q_s, q_sx, q_nx, q_rt, q_bk, q_ct, q_ex, q_seq, q_nil, q_if, q_expr, q_set, q_put, q_puto, q_puta, q_lookPs, q_lookPo, q_ret0, q_ret, q_reto, q_reta, q_lookRs, q_lookRo, q_c, q_v, q_lookVs, q_lookVo, q_view, q_viewo, q_viewa, q_slots, q_sloto, q_opt, q_e1, q_e2, q_eN, q_an, q_ac, q_views0, q_views, q_shs0, q_shs, q_f, q_frz, q_frzo, q_frza, q_lookFs, q_lookFo, q_lst, q_tup, q_mkL, q_mkT, q_cB, q_cV, q_cAnd, q_cOr, q_cNot, q_eIf, q_isBl, q_eAnd, q_eOr, q_eNot, q_andT, q_andF, q_orT, q_orF, q_notK, q_ix, q_ixJ, q_lookJ, q_ixK, q_lookK, q_stK, q_call, q_callO, q_callM, q_callK, q_lookC, q_resC, q_resCx, q_lent, q_lookL, q_resM, q_resMo, q_resMn, q_resMx, q_resP, q_resPo, q_resPn, q_resPx, q_asBl, List.not_mem_nil, q_lt, q_le, q_gt, q_ge, q_add, q_sub, q_mul, q_fdiv, q_mod, q_neg, q_int, q_intb, q_abs, q_len, q_lent1, q_lenr, q_ixl, q_ixt, q_ixr, q_trub, q_trun, q_trui, q_trul, q_trut, q_isn, q_isNn, q_isiT, at0, at1, at2, ixN1, ixN2, startE, List.map_cons, List.map_nil, List.length_cons, List.length_nil, List.replicate, List.cons_append, List.nil_append, List.getElem?_cons_zero, List.getElem?_cons_succ, List.set_cons_zero, List.set_cons_succ, Option.map_some, Option.bind_some, Option.map_none, Option.bind_none, Nat.reduceAdd, Nat.reduceSub, if_true, if_false, Bool.false_eq_true, decide_true, decide_false, Bool.not_true, Bool.not_false, reduceIte, List.length_map, e, hi, isNonD, dueB, Bool.true_and, ha]
/-- least and most are drawn -/
def twoT : Env → R T := eLc [] [7] (iSeq [] (eTup (aCons (eC (.int 0)) (aCons (eC (.int 1)) (aNil))))) (gN 7) cYes (eCallM d__law_pick (aCons (eV 1) (aCons (eF [] (eLst (aCons (eC .non) (aCons (eF [] (eCallM d__law_integer (aCons (eV 1) (aNil)))) (aCons (eF [] (eIf (cV (eCall d__law_is_integer (aCons (eF [] (eV 3)) (aNil)))) (eV 3) (eC (.int 3)))) (aNil)))))) (aNil))))
theorem two_ok {v : D} (hv : Plain v) {n : Nat} {ds : List D} {o0 o2 o4 o5 o6 : Option T} (h : Src n ds) (hn : n + 10 ≤ 1000000) : ∃ l m ds', twoT [o0, some (.own ds), o2, some (.sh v), o4, o5, o6, none] = .ok (.own [l, m]) [o0, some (.own ds'), o2, some (.sh v), o4, o5, o6, none] ∧ LM l ∧ LM m ∧ Src (n + 10) ds' := by
  have ev := fun ρ => callP_ok (ρ := ρ) (is_integer2_ok hv)
  have sz3 : (0 : Nat) + 1 + 1 + 1 ≤ sizeLine := by decide
  have sz2 : (0 : Nat) + 1 + 1 ≤ sizeLine := by decide
  obtain ⟨xs, ρ', E3, l3, p3, d3, rfl, s3⟩ := lcD_all (m := []) (vs := [7]) (gt := gN 7) (fe := eCallM d__law_pick (aCons (eV 1) (aCons (eF [] (eLst (aCons (eC .non) (aCons (eF [] (eCallM d__law_integer (aCons (eV 1) (aNil)))) (aCons (eF [] (eIf (cV (eCall d__law_is_integer (aCons (eF [] (eV 3)) (aNil)))) (eV 3) (eC (.int 3)))) (aNil)))))) (aNil)))) (items := [.int 0, .int 1])
    (fun i ρ => ∃ ds', ρ = [o0, some (.own ds'), o2, some (.sh v), o4, o5, o6, none] ∧ Src (n + i * 5) ds') LM
    (fun i x ρ hx ⟨ds', eρ, s⟩ => by
      subst eρ
      have hi : i < 2 := (List.getElem?_eq_some_iff.mp hx).1
      obtain ⟨z, d1, E1, s1⟩ := integer_ok s (by omega)
      cases hi' : isI v with
      | true =>
        obtain ⟨_, y, d2, E2, _, hm, s2⟩ := picks s1 (xs := [.non, .int z, v]) (by omega) (by simp) (by simp only [List.length_cons, List.length_nil]; omega)
        refine ⟨_, y, [o0, some (.own d2), o2, some (.sh v), o4, o5, o6, some (.sh x)], rfl, ?_, ?_, d2, rfl, s2.mono (by omega)⟩
        · simp only [q_bind, q_bindx, q_s, q_sx, q_nx, q_rt, q_bk, q_ct, q_ex, q_seq, q_nil, q_if, q_expr, q_set, q_put, q_puto, q_puta, q_lookPs, q_lookPo, q_ret0, q_ret, q_reto, q_reta, q_lookRs, q_lookRo, q_c, q_v, q_lookVs, q_lookVo, q_view, q_viewo, q_viewa, q_slots, q_sloto, q_opt, q_e1, q_e2, q_eN, q_an, q_ac, q_views0, q_views, q_shs0, q_shs, q_f, q_frz, q_frzo, q_frza, q_lookFs, q_lookFo, q_lst, q_tup, q_mkL, q_mkT, q_cB, q_cV, q_cAnd, q_cOr, q_cNot, q_eIf, q_isBl, q_eAnd, q_eOr, q_eNot, q_andT, q_andF, q_orT, q_orF, q_notK, q_ix, q_ixJ, q_lookJ, q_ixK, q_lookK, q_stK, q_call, q_callO, q_callM, q_callK, q_lookC, q_resC, q_resCx, q_lent, q_lookL, q_resM, q_resMo, q_resMn, q_resMx, q_resP, q_resPo, q_resPn, q_resPx, q_asBl, List.not_mem_nil, q_lt, q_le, q_gt, q_ge, q_add, q_sub, q_mul, q_fdiv, q_mod, q_neg, q_int, q_intb, q_abs, q_len, q_lent1, q_lenr, q_ixl, q_ixt, q_ixr, q_trub, q_trun, q_trui, q_trul, q_trut, q_isn, q_isNn, q_isiT, at0, at1, at2, ixN1, ixN2, startE, List.map_cons, List.map_nil, List.length_cons, List.length_nil, List.replicate, List.cons_append, List.nil_append, List.getElem?_cons_zero, List.getElem?_cons_succ, List.set_cons_zero, List.set_cons_succ, Option.map_some, Option.bind_some, Option.map_none, Option.bind_none, Nat.reduceAdd, Nat.reduceSub, if_true, if_false, Bool.false_eq_true, decide_true, decide_false, Bool.not_true, Bool.not_false, reduceIte, List.length_map, E1, E2, ev, hi', sz3]
        · obtain ⟨w, rfl⟩ := isI_int hi'
          simp only [List.mem_cons, List.not_mem_nil, or_false] at hm
          rcases hm with h | h | h
          · exact .inl h
          · exact .inr ⟨_, h⟩
          · exact .inr ⟨_, h⟩
      | false =>
        obtain ⟨_, y, d2, E2, _, hm, s2⟩ := picks s1 (xs := [.non, .int z, .int 3]) (by omega) (by simp) (by simp only [List.length_cons, List.length_nil]; omega)
        refine ⟨_, y, [o0, some (.own d2), o2, some (.sh v), o4, o5, o6, some (.sh x)], rfl, ?_, ?_, d2, rfl, s2.mono (by omega)⟩
        · simp only [q_bind, q_bindx, q_s, q_sx, q_nx, q_rt, q_bk, q_ct, q_ex, q_seq, q_nil, q_if, q_expr, q_set, q_put, q_puto, q_puta, q_lookPs, q_lookPo, q_ret0, q_ret, q_reto, q_reta, q_lookRs, q_lookRo, q_c, q_v, q_lookVs, q_lookVo, q_view, q_viewo, q_viewa, q_slots, q_sloto, q_opt, q_e1, q_e2, q_eN, q_an, q_ac, q_views0, q_views, q_shs0, q_shs, q_f, q_frz, q_frzo, q_frza, q_lookFs, q_lookFo, q_lst, q_tup, q_mkL, q_mkT, q_cB, q_cV, q_cAnd, q_cOr, q_cNot, q_eIf, q_isBl, q_eAnd, q_eOr, q_eNot, q_andT, q_andF, q_orT, q_orF, q_notK, q_ix, q_ixJ, q_lookJ, q_ixK, q_lookK, q_stK, q_call, q_callO, q_callM, q_callK, q_lookC, q_resC, q_resCx, q_lent, q_lookL, q_resM, q_resMo, q_resMn, q_resMx, q_resP, q_resPo, q_resPn, q_resPx, q_asBl, List.not_mem_nil, q_lt, q_le, q_gt, q_ge, q_add, q_sub, q_mul, q_fdiv, q_mod, q_neg, q_int, q_intb, q_abs, q_len, q_lent1, q_lenr, q_ixl, q_ixt, q_ixr, q_trub, q_trun, q_trui, q_trul, q_trut, q_isn, q_isNn, q_isiT, at0, at1, at2, ixN1, ixN2, startE, List.map_cons, List.map_nil, List.length_cons, List.length_nil, List.replicate, List.cons_append, List.nil_append, List.getElem?_cons_zero, List.getElem?_cons_succ, List.set_cons_zero, List.set_cons_succ, Option.map_some, Option.bind_some, Option.map_none, Option.bind_none, Nat.reduceAdd, Nat.reduceSub, if_true, if_false, Bool.false_eq_true, decide_true, decide_false, Bool.not_true, Bool.not_false, reduceIte, List.length_map, E1, E2, ev, hi', sz3]
        · simp only [List.mem_cons, List.not_mem_nil, or_false] at hm
          rcases hm with h | h | h
          · exact .inl h
          · exact .inr ⟨_, h⟩
          · exact .inr ⟨_, h⟩)
    (ρ := [o0, some (.own ds), o2, some (.sh v), o4, o5, o6, none]) (by decide) ⟨ds, rfl, by simpa using h⟩
  match xs, l3 with
  | [l, m], _ =>
    refine ⟨l, m, d3, ?_, p3 l (by simp), p3 m (by simp), s3⟩
    unfold twoT
    simp only [q_bind, q_bindx, q_s, q_sx, q_nx, q_rt, q_bk, q_ct, q_ex, q_seq, q_nil, q_if, q_expr, q_set, q_put, q_puto, q_puta, q_lookPs, q_lookPo, q_ret0, q_ret, q_reto, q_reta, q_lookRs, q_lookRo, q_c, q_v, q_lookVs, q_lookVo, q_view, q_viewo, q_viewa, q_slots, q_sloto, q_opt, q_e1, q_e2, q_eN, q_an, q_ac, q_views0, q_views, q_shs0, q_shs, q_f, q_frz, q_frzo, q_frza, q_lookFs, q_lookFo, q_lst, q_tup, q_mkL, q_mkT, q_cB, q_cV, q_cAnd, q_cOr, q_cNot, q_eIf, q_isBl, q_eAnd, q_eOr, q_eNot, q_andT, q_andF, q_orT, q_orF, q_notK, q_ix, q_ixJ, q_lookJ, q_ixK, q_lookK, q_stK, q_call, q_callO, q_callM, q_callK, q_lookC, q_resC, q_resCx, q_lent, q_lookL, q_resM, q_resMo, q_resMn, q_resMx, q_resP, q_resPo, q_resPn, q_resPx, q_asBl, List.not_mem_nil, q_lt, q_le, q_gt, q_ge, q_add, q_sub, q_mul, q_fdiv, q_mod, q_neg, q_int, q_intb, q_abs, q_len, q_lent1, q_lenr, q_ixl, q_ixt, q_ixr, q_trub, q_trun, q_trui, q_trul, q_trut, q_isn, q_isNn, q_isiT, at0, at1, at2, ixN1, ixN2, startE, List.map_cons, List.map_nil, List.length_cons, List.length_nil, List.replicate, List.cons_append, List.nil_append, List.getElem?_cons_zero, List.getElem?_cons_succ, List.set_cons_zero, List.set_cons_succ, Option.map_some, Option.bind_some, Option.map_none, Option.bind_none, Nat.reduceAdd, Nat.reduceSub, if_true, if_false, Bool.false_eq_true, decide_true, decide_false, Bool.not_true, Bool.not_false, reduceIte, List.length_map, q_perm0, q_perm, q_consO, q_callKw, q_kwO, q_unp, q_unpK, q_unpO, q_gL, q_gT, q_gA0, q_gA, q_gN, q_lc, q_lcK, q_iSeq, q_iR, q_itl, q_itt, q_sl, q_oN, q_oS, q_oK, q_slr, q_sll, unw, wipeE, ksh, and_self, sz2, E3]
theorem body_ok {o0 o2 o3 o4 o5 o6 : Option T} {n : Nat} {ds : List D} (h : Src n ds) (hn : n + 100 ≤ 1000000) : ∃ ρ' ds' p2 p3 p4 p5 p6, g_law_b1 [o0, some (.own ds), o2, o3, o4, o5, o6, none] = .nx ρ' ∧ ρ' = [o0, some (.own ds'), p2, p3, p4, p5, p6, none] ∧ Src (n + 100) ds' := by
  obtain ⟨t, d1, E1, vt, s1⟩ := value_ok 3 2 n ds (by decide) (by decide) h (by show n + 78 ≤ _; omega)
  have s1 : Src (n + 78) d1 := s1
  have main : ∀ v, Ok2 v → (∀ xs, v = .lst xs ∨ v = .tup xs → xs.length ≤ 10) → (t = .sh v ∨ ∃ xs, t = .own xs ∧ v = .lst xs) → ∃ ρ' ds' p2 p3 p4 p5 p6, g_law_b1 [o0, some (.own ds), o2, o3, o4, o5, o6, none] = .nx ρ' ∧ ρ' = [o0, some (.own ds'), p2, p3, p4, p5, p6, none] ∧ Src (n + 100) ds' := fun v ok sm ht => by
    have szv : ∀ xs, v = .lst xs ∨ v = .tup xs → xs.length ≤ sizeLine := fun xs hx => Nat.le_trans (sm xs hx) (by decide)
    have c1 := fun ρ => callP_ok (ρ := ρ) (is_integer_ok ok.1)
    have c2 := fun ρ => callP_ok (ρ := ρ) (is_integer2_ok ok.1)
    have c3 := fun ρ => callP_ok (ρ := ρ) (is_point_ok ok szv)
    have c4 := fun ρ => callP_ok (ρ := ρ) (is_point2_ok ok)
    obtain ⟨l, m, d2, E2, hl, hm, s2⟩ := two_ok ok.1 (o0 := o0) (o2 := o2) (o4 := o4) (o5 := o5) (o6 := o6) s1 (by omega)
    have c5 := fun ρ => callP_ok (ρ := ρ) (is_within_ok ok.1 hl hm)
    have E3 := due_ok (a0 := o0) (a1 := some (.own d2)) (a2 := o2) (a6 := o6) (a7 := none) ok.1 hl hm
    have sz2 : (0 : Nat) + 1 + 1 ≤ sizeLine := by decide
    have sz1 : (0 : Nat) + 1 ≤ sizeLine := by decide
    unfold twoT at E2
    unfold dueT at E3
    refine ⟨[o0, some (.own d2), o2, some (.sh v), some (.sh l), some (.sh m), some (.sh (.bl (dueB v l m))), none], d2, o2, _, _, _, _, ?_, rfl, s2.mono (by omega)⟩
    unfold g_law_b1
    refine (seq_to (ρ1 := [o0, some (.own d1), o2, some t, o4, o5, o6, none]) ?_).trans ?_
    · rcases ht with rfl | ⟨xs, rfl, rfl⟩ <;> simp only [q_bind, q_bindx, q_s, q_sx, q_nx, q_rt, q_bk, q_ct, q_ex, q_seq, q_nil, q_if, q_expr, q_set, q_put, q_puto, q_puta, q_lookPs, q_lookPo, q_ret0, q_ret, q_reto, q_reta, q_lookRs, q_lookRo, q_c, q_v, q_lookVs, q_lookVo, q_view, q_viewo, q_viewa, q_slots, q_sloto, q_opt, q_e1, q_e2, q_eN, q_an, q_ac, q_views0, q_views, q_shs0, q_shs, q_f, q_frz, q_frzo, q_frza, q_lookFs, q_lookFo, q_lst, q_tup, q_mkL, q_mkT, q_cB, q_cV, q_cAnd, q_cOr, q_cNot, q_eIf, q_isBl, q_eAnd, q_eOr, q_eNot, q_andT, q_andF, q_orT, q_orF, q_notK, q_ix, q_ixJ, q_lookJ, q_ixK, q_lookK, q_stK, q_call, q_callO, q_callM, q_callK, q_lookC, q_resC, q_resCx, q_lent, q_lookL, q_resM, q_resMo, q_resMn, q_resMx, q_resP, q_resPo, q_resPn, q_resPx, q_asBl, List.not_mem_nil, q_lt, q_le, q_gt, q_ge, q_add, q_sub, q_mul, q_fdiv, q_mod, q_neg, q_int, q_intb, q_abs, q_len, q_lent1, q_lenr, q_ixl, q_ixt, q_ixr, q_trub, q_trun, q_trui, q_trul, q_trut, q_isn, q_isNn, q_isiT, at0, at1, at2, ixN1, ixN2, startE, List.map_cons, List.map_nil, List.length_cons, List.length_nil, List.replicate, List.cons_append, List.nil_append, List.getElem?_cons_zero, List.getElem?_cons_succ, List.set_cons_zero, List.set_cons_succ, Option.map_some, Option.bind_some, Option.map_none, Option.bind_none, Nat.reduceAdd, Nat.reduceSub, if_true, if_false, Bool.false_eq_true, decide_true, decide_false, Bool.not_true, Bool.not_false, reduceIte, List.length_map, q_perm0, q_perm, q_consO, q_callKw, q_kwO, q_unp, q_unpK, q_unpO, q_gL, q_gT, q_gA0, q_gA, q_gN, q_lc, q_lcK, q_iSeq, q_iR, q_itl, q_itt, q_sl, q_oN, q_oS, q_oK, q_slr, q_sll, unw, wipeE, ksh, and_self, E1]
    refine (seq_to (ρ1 := [o0, some (.own d1), o2, some (.sh v), o4, o5, o6, none]) ?_).trans ?_
    · rcases ht with rfl | ⟨xs, rfl, rfl⟩ <;> simp only [q_bind, q_bindx, q_s, q_sx, q_nx, q_rt, q_bk, q_ct, q_ex, q_seq, q_nil, q_if, q_expr, q_set, q_put, q_puto, q_puta, q_lookPs, q_lookPo, q_ret0, q_ret, q_reto, q_reta, q_lookRs, q_lookRo, q_c, q_v, q_lookVs, q_lookVo, q_view, q_viewo, q_viewa, q_slots, q_sloto, q_opt, q_e1, q_e2, q_eN, q_an, q_ac, q_views0, q_views, q_shs0, q_shs, q_f, q_frz, q_frzo, q_frza, q_lookFs, q_lookFo, q_lst, q_tup, q_mkL, q_mkT, q_cB, q_cV, q_cAnd, q_cOr, q_cNot, q_eIf, q_isBl, q_eAnd, q_eOr, q_eNot, q_andT, q_andF, q_orT, q_orF, q_notK, q_ix, q_ixJ, q_lookJ, q_ixK, q_lookK, q_stK, q_call, q_callO, q_callM, q_callK, q_lookC, q_resC, q_resCx, q_lent, q_lookL, q_resM, q_resMo, q_resMn, q_resMx, q_resP, q_resPo, q_resPn, q_resPx, q_asBl, List.not_mem_nil, q_lt, q_le, q_gt, q_ge, q_add, q_sub, q_mul, q_fdiv, q_mod, q_neg, q_int, q_intb, q_abs, q_len, q_lent1, q_lenr, q_ixl, q_ixt, q_ixr, q_trub, q_trun, q_trui, q_trul, q_trut, q_isn, q_isNn, q_isiT, at0, at1, at2, ixN1, ixN2, startE, List.map_cons, List.map_nil, List.length_cons, List.length_nil, List.replicate, List.cons_append, List.nil_append, List.getElem?_cons_zero, List.getElem?_cons_succ, List.set_cons_zero, List.set_cons_succ, Option.map_some, Option.bind_some, Option.map_none, Option.bind_none, Nat.reduceAdd, Nat.reduceSub, if_true, if_false, Bool.false_eq_true, decide_true, decide_false, Bool.not_true, Bool.not_false, reduceIte, List.length_map, q_perm0, q_perm, q_consO, q_callKw, q_kwO, q_unp, q_unpK, q_unpO, q_gL, q_gT, q_gA0, q_gA, q_gN, q_lc, q_lcK, q_iSeq, q_iR, q_itl, q_itt, q_sl, q_oN, q_oS, q_oK, q_slr, q_sll, unw, wipeE, ksh, and_self, c1, c2, sz1, sz2, repr_bl2, mul_bl, ne_str]
    refine (seq_to (ρ1 := [o0, some (.own d1), o2, some (.sh v), o4, o5, o6, none]) ?_).trans ?_
    · simp only [q_bind, q_bindx, q_s, q_sx, q_nx, q_rt, q_bk, q_ct, q_ex, q_seq, q_nil, q_if, q_expr, q_set, q_put, q_puto, q_puta, q_lookPs, q_lookPo, q_ret0, q_ret, q_reto, q_reta, q_lookRs, q_lookRo, q_c, q_v, q_lookVs, q_lookVo, q_view, q_viewo, q_viewa, q_slots, q_sloto, q_opt, q_e1, q_e2, q_eN, q_an, q_ac, q_views0, q_views, q_shs0, q_shs, q_f, q_frz, q_frzo, q_frza, q_lookFs, q_lookFo, q_lst, q_tup, q_mkL, q_mkT, q_cB, q_cV, q_cAnd, q_cOr, q_cNot, q_eIf, q_isBl, q_eAnd, q_eOr, q_eNot, q_andT, q_andF, q_orT, q_orF, q_notK, q_ix, q_ixJ, q_lookJ, q_ixK, q_lookK, q_stK, q_call, q_callO, q_callM, q_callK, q_lookC, q_resC, q_resCx, q_lent, q_lookL, q_resM, q_resMo, q_resMn, q_resMx, q_resP, q_resPo, q_resPn, q_resPx, q_asBl, List.not_mem_nil, q_lt, q_le, q_gt, q_ge, q_add, q_sub, q_mul, q_fdiv, q_mod, q_neg, q_int, q_intb, q_abs, q_len, q_lent1, q_lenr, q_ixl, q_ixt, q_ixr, q_trub, q_trun, q_trui, q_trul, q_trut, q_isn, q_isNn, q_isiT, at0, at1, at2, ixN1, ixN2, startE, List.map_cons, List.map_nil, List.length_cons, List.length_nil, List.replicate, List.cons_append, List.nil_append, List.getElem?_cons_zero, List.getElem?_cons_succ, List.set_cons_zero, List.set_cons_succ, Option.map_some, Option.bind_some, Option.map_none, Option.bind_none, Nat.reduceAdd, Nat.reduceSub, if_true, if_false, Bool.false_eq_true, decide_true, decide_false, Bool.not_true, Bool.not_false, reduceIte, List.length_map, q_perm0, q_perm, q_consO, q_callKw, q_kwO, q_unp, q_unpK, q_unpO, q_gL, q_gT, q_gA0, q_gA, q_gN, q_lc, q_lcK, q_iSeq, q_iR, q_itl, q_itt, q_sl, q_oN, q_oS, q_oK, q_slr, q_sll, unw, wipeE, ksh, and_self, c3, c4, sz1, sz2, repr_bl2, mul_bl, ne_str]
    refine (seq_to (ρ1 := [o0, some (.own d2), o2, some (.sh v), some (.sh l), some (.sh m), o6, none]) ?_).trans ?_
    · simp only [q_unp, q_f]
      rw [E2]
      simp only [q_bind, q_bindx, q_s, q_sx, q_nx, q_rt, q_bk, q_ct, q_ex, q_seq, q_nil, q_if, q_expr, q_set, q_put, q_puto, q_puta, q_lookPs, q_lookPo, q_ret0, q_ret, q_reto, q_reta, q_lookRs, q_lookRo, q_c, q_v, q_lookVs, q_lookVo, q_view, q_viewo, q_viewa, q_slots, q_sloto, q_opt, q_e1, q_e2, q_eN, q_an, q_ac, q_views0, q_views, q_shs0, q_shs, q_f, q_frz, q_frzo, q_frza, q_lookFs, q_lookFo, q_lst, q_tup, q_mkL, q_mkT, q_cB, q_cV, q_cAnd, q_cOr, q_cNot, q_eIf, q_isBl, q_eAnd, q_eOr, q_eNot, q_andT, q_andF, q_orT, q_orF, q_notK, q_ix, q_ixJ, q_lookJ, q_ixK, q_lookK, q_stK, q_call, q_callO, q_callM, q_callK, q_lookC, q_resC, q_resCx, q_lent, q_lookL, q_resM, q_resMo, q_resMn, q_resMx, q_resP, q_resPo, q_resPn, q_resPx, q_asBl, List.not_mem_nil, q_lt, q_le, q_gt, q_ge, q_add, q_sub, q_mul, q_fdiv, q_mod, q_neg, q_int, q_intb, q_abs, q_len, q_lent1, q_lenr, q_ixl, q_ixt, q_ixr, q_trub, q_trun, q_trui, q_trul, q_trut, q_isn, q_isNn, q_isiT, at0, at1, at2, ixN1, ixN2, startE, List.map_cons, List.map_nil, List.length_cons, List.length_nil, List.replicate, List.cons_append, List.nil_append, List.getElem?_cons_zero, List.getElem?_cons_succ, List.set_cons_zero, List.set_cons_succ, Option.map_some, Option.bind_some, Option.map_none, Option.bind_none, Nat.reduceAdd, Nat.reduceSub, if_true, if_false, Bool.false_eq_true, decide_true, decide_false, Bool.not_true, Bool.not_false, reduceIte, List.length_map, q_perm0, q_perm, q_consO, q_callKw, q_kwO, q_unp, q_unpK, q_unpO, q_gL, q_gT, q_gA0, q_gA, q_gN, q_lc, q_lcK, q_iSeq, q_iR, q_itl, q_itt, q_sl, q_oN, q_oS, q_oK, q_slr, q_sll, unw, wipeE, ksh, and_self, ]
    refine (seq_to (ρ1 := [o0, some (.own d2), o2, some (.sh v), some (.sh l), some (.sh m), some (.sh (.bl (dueB v l m))), none]) ?_).trans ?_
    · simp only [q_set]
      rw [E3]
      simp only [q_bind, q_bindx, q_s, q_sx, q_nx, q_rt, q_bk, q_ct, q_ex, q_seq, q_nil, q_if, q_expr, q_set, q_put, q_puto, q_puta, q_lookPs, q_lookPo, q_ret0, q_ret, q_reto, q_reta, q_lookRs, q_lookRo, q_c, q_v, q_lookVs, q_lookVo, q_view, q_viewo, q_viewa, q_slots, q_sloto, q_opt, q_e1, q_e2, q_eN, q_an, q_ac, q_views0, q_views, q_shs0, q_shs, q_f, q_frz, q_frzo, q_frza, q_lookFs, q_lookFo, q_lst, q_tup, q_mkL, q_mkT, q_cB, q_cV, q_cAnd, q_cOr, q_cNot, q_eIf, q_isBl, q_eAnd, q_eOr, q_eNot, q_andT, q_andF, q_orT, q_orF, q_notK, q_ix, q_ixJ, q_lookJ, q_ixK, q_lookK, q_stK, q_call, q_callO, q_callM, q_callK, q_lookC, q_resC, q_resCx, q_lent, q_lookL, q_resM, q_resMo, q_resMn, q_resMx, q_resP, q_resPo, q_resPn, q_resPx, q_asBl, List.not_mem_nil, q_lt, q_le, q_gt, q_ge, q_add, q_sub, q_mul, q_fdiv, q_mod, q_neg, q_int, q_intb, q_abs, q_len, q_lent1, q_lenr, q_ixl, q_ixt, q_ixr, q_trub, q_trun, q_trui, q_trul, q_trut, q_isn, q_isNn, q_isiT, at0, at1, at2, ixN1, ixN2, startE, List.map_cons, List.map_nil, List.length_cons, List.length_nil, List.replicate, List.cons_append, List.nil_append, List.getElem?_cons_zero, List.getElem?_cons_succ, List.set_cons_zero, List.set_cons_succ, Option.map_some, Option.bind_some, Option.map_none, Option.bind_none, Nat.reduceAdd, Nat.reduceSub, if_true, if_false, Bool.false_eq_true, decide_true, decide_false, Bool.not_true, Bool.not_false, reduceIte, List.length_map, q_perm0, q_perm, q_consO, q_callKw, q_kwO, q_unp, q_unpK, q_unpO, q_gL, q_gT, q_gA0, q_gA, q_gN, q_lc, q_lcK, q_iSeq, q_iR, q_itl, q_itt, q_sl, q_oN, q_oS, q_oK, q_slr, q_sll, unw, wipeE, ksh, and_self, ]
    simp only [q_bind, q_bindx, q_s, q_sx, q_nx, q_rt, q_bk, q_ct, q_ex, q_seq, q_nil, q_if, q_expr, q_set, q_put, q_puto, q_puta, q_lookPs, q_lookPo, q_ret0, q_ret, q_reto, q_reta, q_lookRs, q_lookRo, q_c, q_v, q_lookVs, q_lookVo, q_view, q_viewo, q_viewa, q_slots, q_sloto, q_opt, q_e1, q_e2, q_eN, q_an, q_ac, q_views0, q_views, q_shs0, q_shs, q_f, q_frz, q_frzo, q_frza, q_lookFs, q_lookFo, q_lst, q_tup, q_mkL, q_mkT, q_cB, q_cV, q_cAnd, q_cOr, q_cNot, q_eIf, q_isBl, q_eAnd, q_eOr, q_eNot, q_andT, q_andF, q_orT, q_orF, q_notK, q_ix, q_ixJ, q_lookJ, q_ixK, q_lookK, q_stK, q_call, q_callO, q_callM, q_callK, q_lookC, q_resC, q_resCx, q_lent, q_lookL, q_resM, q_resMo, q_resMn, q_resMx, q_resP, q_resPo, q_resPn, q_resPx, q_asBl, List.not_mem_nil, q_lt, q_le, q_gt, q_ge, q_add, q_sub, q_mul, q_fdiv, q_mod, q_neg, q_int, q_intb, q_abs, q_len, q_lent1, q_lenr, q_ixl, q_ixt, q_ixr, q_trub, q_trun, q_trui, q_trul, q_trut, q_isn, q_isNn, q_isiT, at0, at1, at2, ixN1, ixN2, startE, List.map_cons, List.map_nil, List.length_cons, List.length_nil, List.replicate, List.cons_append, List.nil_append, List.getElem?_cons_zero, List.getElem?_cons_succ, List.set_cons_zero, List.set_cons_succ, Option.map_some, Option.bind_some, Option.map_none, Option.bind_none, Nat.reduceAdd, Nat.reduceSub, if_true, if_false, Bool.false_eq_true, decide_true, decide_false, Bool.not_true, Bool.not_false, reduceIte, List.length_map, q_perm0, q_perm, q_consO, q_callKw, q_kwO, q_unp, q_unpK, q_unpO, q_gL, q_gT, q_gA0, q_gA, q_gN, q_lc, q_lcK, q_iSeq, q_iR, q_itl, q_itt, q_sl, q_oN, q_oS, q_oK, q_slr, q_sll, unw, wipeE, ksh, and_self, c5, sz2, repr_bl2, ne_str]
  rcases vt with ⟨d, rfl, ok, sm⟩ | ⟨xs, rfl, ps, sm⟩
  · exact main d ok sm (.inl rfl)
  · exact main (.lst xs) ⟨⟨_, rfl⟩, fun ys hy => by rcases hy with hy | hy <;> cases hy; exact ps⟩ (fun ys hy => by rcases hy with hy | hy <;> cases hy; exact sm) (.inr ⟨xs, rfl, rfl⟩)
theorem plain (ns : List Int) (h1 : ns.length ≤ 63) (h2 : ∀ z ∈ ns, Builtin.Int.intBits z ≤ 1048576) : d_law [.rol (ns.map D.int)] = .ok (.sh (.bl true)) := by
  obtain ⟨ds, E0, s0⟩ := dune ns h1 h2
  have c0 := fun ρ => callP_ok (ρ := ρ) E0
  have er : rng1 [.int 8] = some (rngD 0 8) := rfl
  have lr : (rngD 0 8).length = 8 := rfl
  obtain ⟨ρ', E1, I1⟩ := forD_all (gt := gN 2) (gb := g_law_b1) (items := rngD 0 8)
    (fun i ρ => ∃ ds' p2 p3 p4 p5 p6, ρ = [some (.sh (.rol (ns.map D.int))), some (.own ds'), p2, p3, p4, p5, p6, none] ∧ Src (i * 100) ds')
    (fun i x ρ hx ⟨ds', p2, p3, p4, p5, p6, eρ, s⟩ => by
      subst eρ
      have hi : i < 8 := by have := (List.getElem?_eq_some_iff.mp hx).1; omega
      obtain ⟨ρ2, ds2, r2, r3, r4, r5, r6, E2, e, s2⟩ := body_ok (o0 := some (.sh (.rol (ns.map D.int)))) (o2 := some (.sh x)) (o3 := p3) (o4 := p4) (o5 := p5) (o6 := p6) s (by omega)
      exact ⟨_, ρ2, rfl, .inl E2, ds2, r2, r3, r4, r5, r6, e, s2.mono (by omega)⟩)
    (ρ := [some (.sh (.rol (ns.map D.int))), some (.own ds), none, none, none, none, none, none]) ⟨ds, _, _, _, _, _, rfl, s0⟩
  refine (q_denP rfl).trans ?_
  unfold g_law
  simp only [q_bind, q_bindx, q_s, q_sx, q_nx, q_rt, q_bk, q_ct, q_ex, q_seq, q_nil, q_if, q_expr, q_set, q_put, q_puto, q_puta, q_lookPs, q_lookPo, q_ret0, q_ret, q_reto, q_reta, q_lookRs, q_lookRo, q_c, q_v, q_lookVs, q_lookVo, q_view, q_viewo, q_viewa, q_slots, q_sloto, q_opt, q_e1, q_e2, q_eN, q_an, q_ac, q_views0, q_views, q_shs0, q_shs, q_f, q_frz, q_frzo, q_frza, q_lookFs, q_lookFo, q_lst, q_tup, q_mkL, q_mkT, q_cB, q_cV, q_cAnd, q_cOr, q_cNot, q_eIf, q_isBl, q_eAnd, q_eOr, q_eNot, q_andT, q_andF, q_orT, q_orF, q_notK, q_ix, q_ixJ, q_lookJ, q_ixK, q_lookK, q_stK, q_call, q_callO, q_callM, q_callK, q_lookC, q_resC, q_resCx, q_lent, q_lookL, q_resM, q_resMo, q_resMn, q_resMx, q_resP, q_resPo, q_resPn, q_resPx, q_asBl, List.not_mem_nil, q_lt, q_le, q_gt, q_ge, q_add, q_sub, q_mul, q_fdiv, q_mod, q_neg, q_int, q_intb, q_abs, q_len, q_lent1, q_lenr, q_ixl, q_ixt, q_ixr, q_trub, q_trun, q_trui, q_trul, q_trut, q_isn, q_isNn, q_isiT, at0, at1, at2, ixN1, ixN2, startE, List.map_cons, List.map_nil, List.length_cons, List.length_nil, List.replicate, List.cons_append, List.nil_append, List.getElem?_cons_zero, List.getElem?_cons_succ, List.set_cons_zero, List.set_cons_succ, Option.map_some, Option.bind_some, Option.map_none, Option.bind_none, Nat.reduceAdd, Nat.reduceSub, if_true, if_false, Bool.false_eq_true, decide_true, decide_false, Bool.not_true, Bool.not_false, reduceIte, List.length_map, q_perm0, q_perm, q_consO, q_callKw, q_kwO, q_unp, q_unpK, q_unpO, q_gL, q_gT, q_gA0, q_gA, q_gN, q_lc, q_lcK, q_iSeq, q_iR, q_itl, q_itt, q_sl, q_oN, q_oS, q_oK, q_slr, q_sll, unw, wipeE, ksh, and_self, c0, q_for, er, E1]
end k02
end Pf

open PySem PySem.W PyProof.Rows in
set_option maxRecDepth 100000 in
set_option maxHeartbeats 0 in
theorem PySem.Challenge.cw_baysout_k02_integers_and_points_holds : PySem.Challenge.rw_baysout_k02_integers_and_points.Holds := by
  w_on; o_law; k_head; (case hw => w_witness2)
  k_fill
  refine Pf.walk_g (l := PySem.Challenge.rw_baysout_k02_integers_and_points) (n := 63) (k := 7) (x := "_law_script") (f := Pf.k02.d_law) rfl (by decide) rfl ⟨⟨rfl, by decide, by decide⟩, rfl⟩ (fun w h Y => PySem.W.kIn_of Y) ?F (fun ns h1 h2 => Pf.k02.plain ns h1 h2)
  case F =>
    intro w mg fa h KX G hmg
    refine' Pf.k02.all_mk KX G hmg ?a0 ?l0 ?c0 ?k0 ?a1 ?l1 ?c1 ?k1 ?a2 ?l2 ?c2 ?k2 ?a3 ?l3 ?c3 ?k3 ?a4 ?l4 ?c4 ?k4 ?a5 ?l5 ?c5 ?k5 ?a6 ?l6 ?c6 ?k6 ?a7 ?l7 ?c7 ?k7 ?a8 ?l8 ?c8 ?k8 ?a9 ?l9 ?c9 ?k9 ?a10 ?l10 ?c10 ?k10 ?z_abs ?z_all ?z_bool ?z_int ?z_isinstance ?z_len ?z_list ?z_range ?z_repr ?z_tuple
    (case a0 => k_is)
    (case l0 => k_is)
    (case c0 => k_is)
    (case k0 => k_is)
    (case a1 => k_is)
    (case l1 => k_is)
    (case c1 => k_is)
    (case k1 => k_is)
    (case a2 => k_is)
    (case l2 => k_is)
    (case c2 => k_is)
    (case k2 => k_is)
    (case a3 => k_is)
    (case l3 => k_is)
    (case c3 => k_is)
    (case k3 => k_is)
    (case a4 => k_is)
    (case l4 => k_is)
    (case c4 => k_is)
    (case k4 => k_is)
    (case a5 => k_is)
    (case l5 => k_is)
    (case c5 => k_is)
    (case k5 => k_is)
    (case a6 => k_is)
    (case l6 => k_is)
    (case c6 => k_is)
    (case k6 => k_is)
    (case a7 => k_is)
    (case l7 => k_is)
    (case c7 => k_is)
    (case k7 => k_is)
    (case a8 => k_is)
    (case l8 => k_is)
    (case c8 => k_is)
    (case k8 => k_is)
    (case a9 => k_is)
    (case l9 => k_is)
    (case c9 => k_is)
    (case k9 => k_is)
    (case a10 => k_is)
    (case l10 => k_is)
    (case c10 => k_is)
    (case k10 => k_is)
    (case z_abs => k_is)
    (case z_all => k_is)
    (case z_bool => k_is)
    (case z_int => k_is)
    (case z_isinstance => k_is)
    (case z_len => k_is)
    (case z_list => k_is)
    (case z_range => k_is)
    (case z_repr => k_is)
    (case z_tuple => k_is)
