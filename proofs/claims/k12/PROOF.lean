import PyProof.Rows.All
import Wide.All
import OpenK.AllK
import Wide.FinOn
import HandS.ForMost
import HandS.ForExc
import HandS.ExcInit
import HandS.EndTab
import HandS.TupAny
import HandS.TupMul
import HandS.IsInst
import HandS.Wide
import HandS.Style
import HandS.Lambda
import KE.GoesEnum
import HandS.HeadWalk
import HandS.HeadHook4
import HandS.Head2
import PyProof.StrLawsRepr
import PyProof.FitsInt
import PyProof.P3Eq
import PySem.Challenge.RW_toldquiet_k12_the_middle_row_and_sides
set_option Elab.async false
set_option linter.all false
set_option maxRecDepth 100000
set_option maxHeartbeats 4000000
namespace TQ
open PySem PySem.Spec PyProof.Rows L2
abbrev Sg := L2.St
/-! ### deep data -/
inductive D where
  | non
  | bl (b : Bool)
  | int (i : Int)
  | str (x : Str)
  | tup (l : List D)
  | lst (l : List D)
  | frl (l : List D)
  | opq (v : V)
mutual
def D.pure : D → Bool
  | .tup l => pureL l
  | .lst _ => false
  | .frl l => pureL l
  | _ => true
def pureL : List D → Bool
  | [] => true
  | d :: l => d.pure && pureL l
end
/-- a list that nobody writes -/
def FrL (K : PySem.W.Frag) (H : Hp) (a : Addr) (xs : List V) : Prop :=
  (∃ o, H a = some (.frz o (.lst xs))) ∨
    ∃ (o : Obj) (its : Array Value) (n : Nat), K.lookup a = some o ∧ o.cls = .type "list" ∧ o.dict = none ∧ o.data = .seq its n ∧ its.size ≤ sizeLine ∧ Vals xs its.toList
theorem FrL.sq {K : PySem.W.Frag} {H : Hp} {a : Addr} {xs : List V} (h : FrL K H a xs) : SqL K H a xs := by
  rcases h with ⟨o, e⟩ | h
  · exact .inl (.inr ⟨o, e⟩)
  · exact .inr h
mutual
/-- v is d in the heap H; the objects at F (may be written) are its own -/
def rep (K : PySem.W.Frag) (H : Hp) : D → V → List Addr → Prop
  | .non, v, F => v = .non ∧ F = []
  | .bl b, v, F => v = .bl b ∧ F = []
  | .int i, v, F => v = .int i ∧ F = []
  | .str x, v, F => v = .str x ∧ F = []
  | .tup ds, v, F => ∃ a vs, v = .ref a ∧ SqT K H a vs ∧ reps K H ds vs F
  | .lst ds, v, F => ∃ a vs G, v = .ref a ∧ H a = some (.lst vs) ∧ F = a :: G ∧ a ∉ G ∧ reps K H ds vs G
  | .frl ds, v, F => ∃ a vs, v = .ref a ∧ FrL K H a vs ∧ F = [] ∧ reps K H ds vs []
  | .opq u, v, F => v = u ∧ F = []
def reps (K : PySem.W.Frag) (H : Hp) : List D → List V → List Addr → Prop
  | [], vs, F => vs = [] ∧ F = []
  | d :: ds, vs, F => ∃ v us F1 F2, vs = v :: us ∧ F = F1 ++ F2 ∧ (∀ a ∈ F1, a ∉ F2) ∧ rep K H d v F1 ∧ reps K H ds us F2
end
/-- what may be written -/
def Mu : HO → Prop
  | .lst _ => True
  | _ => False
/-- from the own things P at H to the own things P' at H' -/
structure Step (T : List (Addr × Str)) (H : Hp) (P : Addr → Prop) (H' : Hp) (P' : Addr → Prop) : Prop where
  mu : ∀ a, P a → ∃ o, H a = some o ∧ Mu o
  keep : ∀ a o, H a = some o → ¬ P a → (∀ ps, o ≠ .tbl ps) → H' a = some o
  new : ∀ a o, P' a → H a = some o → (∀ ps, o ≠ .tbl ps) → P a
  tab : LamX.Tabs T H → LamX.Tabs T H'
theorem Step.tup {T : List (Addr × Str)} {H H' : Hp} {P P' : Addr → Prop} (st : Step T H P H' P') {K : PySem.W.Frag} {a : Addr} {vs : List V} (h : SqT K H a vs) : SqT K H' a vs := by
  rcases h with (h | ⟨o, h⟩) | h
  · refine .inl (.inl (st.keep a _ h (fun p => ?_) (fun ps z => by cases z)))
    obtain ⟨o, e, m⟩ := st.mu a p
    rw [h] at e; cases e; exact m
  · refine .inl (.inr ⟨o, st.keep a _ h (fun p => ?_) (fun ps z => by cases z)⟩)
    obtain ⟨o, e, m⟩ := st.mu a p
    rw [h] at e; cases e; exact m
  · exact .inr h
theorem Step.frl {T : List (Addr × Str)} {H H' : Hp} {P P' : Addr → Prop} (st : Step T H P H' P') {K : PySem.W.Frag} {a : Addr} {vs : List V} (h : FrL K H a vs) : FrL K H' a vs := by
  rcases h with ⟨o, h⟩ | h
  · refine .inl ⟨o, st.keep a _ h (fun p => ?_) (fun ps z => by cases z)⟩
    obtain ⟨o, e, m⟩ := st.mu a p
    rw [h] at e; cases e; exact m
  · exact .inr h
mutual
theorem rep_step {T : List (Addr × Str)} {K : PySem.W.Frag} {H H' : Hp} {P P' : Addr → Prop} (st : Step T H P H' P') : ∀ (d : D) (v : V) (F : List Addr), rep K H d v F → (∀ a ∈ F, ¬ P a) → rep K H' d v F
  | .non, _, _, h, _ => h
  | .bl _, _, _, h, _ => h
  | .int _, _, _, h, _ => h
  | .str _, _, _, h, _ => h
  | .opq _, _, _, h, _ => h
  | .tup ds, v, F, h, n => by
    obtain ⟨a, vs, e, t, r⟩ := h
    exact ⟨a, vs, e, st.tup t, reps_step st ds vs F r n⟩
  | .lst ds, v, F, h, n => by
    obtain ⟨a, vs, G, e, t, rfl, na, r⟩ := h
    refine ⟨a, vs, G, e, st.keep a _ t (n a List.mem_cons_self) (fun ps z => by cases z), rfl, na, reps_step st ds vs G r fun b hb => n b (List.mem_cons_of_mem _ hb)⟩
  | .frl ds, v, F, h, n => by
    obtain ⟨a, vs, e, t, rfl, r⟩ := h
    exact ⟨a, vs, e, st.frl t, rfl, reps_step st ds vs [] r fun b hb => by cases hb⟩
theorem reps_step {T : List (Addr × Str)} {K : PySem.W.Frag} {H H' : Hp} {P P' : Addr → Prop} (st : Step T H P H' P') : ∀ (ds : List D) (vs : List V) (F : List Addr), reps K H ds vs F → (∀ a ∈ F, ¬ P a) → reps K H' ds vs F
  | [], _, _, h, _ => h
  | d :: ds, vs, F, h, n => by
    obtain ⟨v, us, F1, F2, rfl, rfl, dj, r1, r2⟩ := h
    exact ⟨v, us, F1, F2, rfl, rfl, dj, rep_step st d v F1 r1 fun a ha => n a (List.mem_append_left _ ha), reps_step st ds us F2 r2 fun a ha => n a (List.mem_append_right _ ha)⟩
end
mutual
theorem rep_mu {K : PySem.W.Frag} {H : Hp} : ∀ (d : D) (v : V) (F : List Addr), rep K H d v F → ∀ a ∈ F, ∃ o, H a = some o ∧ Mu o
  | .non, _, _, h, a, ha => by rw [h.2] at ha; cases ha
  | .bl _, _, _, h, a, ha => by rw [h.2] at ha; cases ha
  | .int _, _, _, h, a, ha => by rw [h.2] at ha; cases ha
  | .str _, _, _, h, a, ha => by rw [h.2] at ha; cases ha
  | .opq _, _, _, h, a, ha => by rw [h.2] at ha; cases ha
  | .tup ds, v, F, h, a, ha => by
    obtain ⟨_, vs, _, _, r⟩ := h
    exact reps_mu ds vs F r a ha
  | .lst ds, v, F, h, a, ha => by
    obtain ⟨b, vs, G, _, t, rfl, _, r⟩ := h
    rcases List.mem_cons.mp ha with e | ha
    · subst e; exact ⟨_, t, trivial⟩
    · exact reps_mu ds vs G r a ha
  | .frl ds, v, F, h, a, ha => by
    obtain ⟨_, vs, _, _, rfl, r⟩ := h
    cases ha
theorem reps_mu {K : PySem.W.Frag} {H : Hp} : ∀ (ds : List D) (vs : List V) (F : List Addr), reps K H ds vs F → ∀ a ∈ F, ∃ o, H a = some o ∧ Mu o
  | [], _, _, h, a, ha => by rw [h.2] at ha; cases ha
  | d :: ds, vs, F, h, a, ha => by
    obtain ⟨v, us, F1, F2, rfl, rfl, dj, r1, r2⟩ := h
    rcases List.mem_append.mp ha with ha | ha
    · exact rep_mu d v F1 r1 a ha
    · exact reps_mu ds us F2 r2 a ha
end
mutual
theorem rep_pure {K : PySem.W.Frag} {H : Hp} : ∀ (d : D) (v : V) (F : List Addr), d.pure = true → rep K H d v F → F = []
  | .non, _, _, _, h => h.2
  | .bl _, _, _, _, h => h.2
  | .int _, _, _, _, h => h.2
  | .str _, _, _, _, h => h.2
  | .opq _, _, _, _, h => h.2
  | .tup ds, v, F, p, h => by
    obtain ⟨_, vs, _, _, r⟩ := h
    exact reps_pure ds vs F (by simpa [D.pure] using p) r
  | .lst ds, v, F, p, h => by simp [D.pure] at p
  | .frl ds, v, F, p, h => by
    obtain ⟨_, vs, _, _, rfl, r⟩ := h
    rfl
theorem reps_pure {K : PySem.W.Frag} {H : Hp} : ∀ (ds : List D) (vs : List V) (F : List Addr), pureL ds = true → reps K H ds vs F → F = []
  | [], _, _, _, h => h.2
  | d :: ds, vs, F, p, h => by
    obtain ⟨v, us, F1, F2, rfl, rfl, dj, r1, r2⟩ := h
    rw [pureL, Bool.and_eq_true] at p
    rw [rep_pure d v F1 p.1 r1, reps_pure ds us F2 p.2 r2]; rfl
end
theorem reps_length {K : PySem.W.Frag} {H : Hp} : ∀ {ds : List D} {vs : List V} {F : List Addr}, reps K H ds vs F → vs.length = ds.length
  | [], _, _, h => by rw [h.1]; rfl
  | d :: ds, _, _, h => by
    obtain ⟨v, us, F1, F2, rfl, _, _, _, r⟩ := h
    simp [reps_length r]
theorem reps_get {K : PySem.W.Frag} {H : Hp} : ∀ {ds : List D} {vs : List V} {F : List Addr} {i : Nat} {d : D}, reps K H ds vs F → ds[i]? = some d → ∃ v F1, vs[i]? = some v ∧ rep K H d v F1 ∧ ∀ a ∈ F1, a ∈ F
  | [], _, _, _, _, _, e => by simp at e
  | d :: ds, _, _, 0, d', h, e => by
    obtain ⟨v, us, F1, F2, rfl, rfl, _, r1, _⟩ := h
    simp at e; subst e
    exact ⟨v, F1, rfl, r1, fun a ha => List.mem_append_left _ ha⟩
  | d :: ds, _, _, i + 1, d', h, e => by
    obtain ⟨v, us, F1, F2, rfl, rfl, _, _, r⟩ := h
    obtain ⟨v', F', e1, r', s⟩ := reps_get (i := i) r (by simpa using e)
    exact ⟨v', F', by simpa using e1, r', fun a ha => List.mem_append_right _ (s a ha)⟩
theorem reps_app {K : PySem.W.Frag} {H : Hp} : ∀ {ds es : List D} {vs us : List V} {F G : List Addr}, reps K H ds vs F → reps K H es us G → (∀ a ∈ F, a ∉ G) → reps K H (ds ++ es) (vs ++ us) (F ++ G)
  | [], _, _, _, _, _, h, h', _ => by
    obtain ⟨rfl, rfl⟩ := h
    simpa using h'
  | d :: ds, es, _, us, _, G, h, h', dj => by
    obtain ⟨v, vs, F1, F2, rfl, rfl, d12, r1, r2⟩ := h
    refine ⟨v, vs ++ us, F1, F2 ++ G, rfl, List.append_assoc _ _ _, fun a ha hb => ?_, r1, reps_app r2 h' fun a ha => dj a (List.mem_append_right _ ha)⟩
    rcases List.mem_append.mp hb with hb | hb
    · exact d12 a ha hb
    · exact dj a (List.mem_append_left _ ha) hb
theorem reps_one {K : PySem.W.Frag} {H : Hp} {d : D} {v : V} {F : List Addr} (h : rep K H d v F) : reps K H [d] [v] F :=
  ⟨v, [], F, [], rfl, by simp, (fun _ _ z => by cases z), h, rfl, rfl⟩
theorem rep_pure0 {K : PySem.W.Frag} {H : Hp} {d : D} {v : V} {F : List Addr} (p : d.pure = true) (h : rep K H d v F) : rep K H d v [] := by
  rw [rep_pure d v F p h] at h; exact h
theorem pureL_mem : ∀ {ds : List D} {d : D}, pureL ds = true → d ∈ ds → d.pure = true
  | d :: ds, e, p, h => by
    rw [pureL, Bool.and_eq_true] at p
    rcases List.mem_cons.mp h with h | h
    · subst h; exact p.1
    · exact pureL_mem p.2 h
theorem pureL_of : ∀ {ds : List D}, (∀ d ∈ ds, d.pure = true) → pureL ds = true
  | [], _ => rfl
  | d :: ds, h => by
    rw [pureL, Bool.and_eq_true]
    exact ⟨h d List.mem_cons_self, pureL_of fun e he => h e (List.mem_cons_of_mem _ he)⟩
/-- a list of pure data from its items -/
theorem reps_of {K : PySem.W.Frag} {H : Hp} : ∀ {ds : List D} {vs : List V}, vs.length = ds.length → (∀ (i : Nat) (d : D) (v : V), ds[i]? = some d → vs[i]? = some v → rep K H d v []) → reps K H ds vs []
  | [], vs, l, _ => ⟨List.length_eq_zero_iff.mp l, rfl⟩
  | d :: ds, [], l, _ => by simp at l
  | d :: ds, v :: vs, l, h => ⟨v, vs, [], [], rfl, rfl, fun _ z => (by cases z), h 0 d v rfl rfl, reps_of (by simpa using l) fun i d' v' e1 e2 => h (i + 1) d' v' (by simpa using e1) (by simpa using e2)⟩
/-! ### the machine of data -/
inductive Rs (S α : Type) where
  | ok (a : α) (s : S)
  | exc (c : Str) (w : D) (s : S)
  | stuck
abbrev Sd := List (Option D)
abbrev M (α : Type) := Sd → Rs Sd α
inductive Opd where
  | own (d : D)
  | nm (i : Nat)
def Opd.get (s : Sd) : Opd → Option D
  | .own d => some d
  | .nm i => (s[i]?).join
inductive Fl where
  | next
  | brk
  | cont
  | ret (d : D)
abbrev FM := List D → Rs (List D) D
/-- what stands fast: the written part, the module's names, the tables of code objects -/
structure Gx where
  K : PySem.W.Frag
  mg : Str → Option Value
  T : List (Addr × Str)
structure SRel (G : Gx) (H : Hp) (σ : Sg) (ds : Sd) (Fs : Nat → List Addr) : Prop where
  len : σ.length = ds.length
  at_ : ∀ i d, ds[i]? = some (some d) → ∃ v, σ[i]? = some (some v) ∧ rep G.K H d v (Fs i)
  no : ∀ i, (∀ d, ds[i]? ≠ some (some d)) → Fs i = []
  dj : ∀ i j a, i ≠ j → a ∈ Fs i → a ∉ Fs j
  tab : LamX.Tabs G.T H
def InF (Fs : Nat → List Addr) (a : Addr) : Prop := ∃ i, a ∈ Fs i
theorem SRel.mu {G : Gx} {H : Hp} {σ : Sg} {ds : Sd} {Fs : Nat → List Addr} (R : SRel G H σ ds Fs) : ∀ a, InF Fs a → ∃ o, H a = some o ∧ Mu o := by
  rintro a ⟨i, ha⟩
  by_cases h : ∃ d, ds[i]? = some (some d)
  · obtain ⟨d, e⟩ := h
    obtain ⟨v, _, r⟩ := R.at_ i d e
    exact rep_mu d v _ r a ha
  · rw [R.no i (fun d e => h ⟨d, e⟩)] at ha; cases ha
theorem Step.refl {T : List (Addr × Str)} {H : Hp} {P : Addr → Prop} (mu : ∀ a, P a → ∃ o, H a = some o ∧ Mu o) : Step T H P H P := ⟨mu, fun _ _ h _ _ => h, fun _ _ h _ _ => h, fun h => h⟩
theorem Step.trans {T : List (Addr × Str)} {H H1 H2 : Hp} {P P1 P2 : Addr → Prop} (a : Step T H P H1 P1) (b : Step T H1 P1 H2 P2) : Step T H P H2 P2 where
  mu := a.mu
  keep := fun x o h n t => b.keep x o (a.keep x o h n t) (fun p => n (a.new x o p h t)) t
  new := fun x o p h t => by
    by_cases hp : P x
    · exact hp
    · exact a.new x o (b.new x o p (a.keep x o h hp t) t) h t
  tab := fun h => b.tab (a.tab h)
/-- what is new at P' stood in P, or did not stand -/
theorem Step.new' {T : List (Addr × Str)} {H H' : Hp} {P P' : Addr → Prop} (st : Step T H P H' P') {a : Addr} (h : P' a) {o : HO} (e : H a = some o) (m : Mu o) : P a :=
  st.new a o h e fun ps z => by rw [z] at m; exact m
end TQ
set_option maxHeartbeats 4000000
namespace TQ
open PySem PySem.Spec PyProof.Rows L2
/-! ### readings by the machine of data -/
def mRet {α : Type} (a : α) : M α := fun s => .ok a s
def mBind {α β : Type} (m : M α) (k : α → M β) : M β := fun s => match m s with
  | .ok a s' => k a s'
  | .exc c w s' => .exc c w s'
  | .stuck => .stuck
abbrev gx (T : List (Addr × Str)) (X : Cx) : Gx := ⟨X.K, X.mg, T⟩
def ExcP (T : List (Addr × Str)) (X : Cx) (W : WX) (H : Hp) (P : Addr → Prop) (σ : Sg) (c : Str) (w : D) (ds' : Sd) : Prop :=
  ∀ (C x : Addr) (v : V) (H' : Hp) (Fs' : Nat → List Addr), X.mg c = some (.ref C) → H' x = some (.xd [("what", v)]) → rep X.K H' w v [] → SRel (gx T X) H' σ ds' Fs' → Step T H P H' (InF Fs') → W (.ref C) (some x) σ H'
abbrev Rl (α β : Type) := Sg → Hp → α → β → List Addr → Prop
def Post {α β : Type} (T : List (Addr × Str)) (X : Cx) (W : WX) (rel : Rl α β) (H : Hp) (P : Addr → Prop) (σ : Sg) (r : Rs Sd α) (Q : β → Hp → Prop) : Prop := match r with
  | .ok a ds' => ∀ (b : β) (F : List Addr) (H' : Hp) (Fs' : Nat → List Addr), rel σ H' a b F → SRel (gx T X) H' σ ds' Fs' → (∀ x ∈ F, ¬ InF Fs' x) → Step T H P H' (fun x => x ∈ F ∨ InF Fs' x) → Q b H'
  | .exc c w ds' => ExcP T X W H P σ c w ds'
  | .stuck => False
def tM {α β : Type} (T : List (Addr × Str)) (X : Cx) (W : WX) (rel : Rl α β) (m : M α) : Sg → Hp → (β → Hp → Prop) → Prop := fun σ H Q =>
  ∃ (ds : Sd) (Fs : Nat → List Addr), SRel (gx T X) H σ ds Fs ∧ Post T X W rel H (InF Fs) σ (m ds) Q
def rO (X : Cx) : Rl Opd V := fun σ H o v F => match o with
  | .own d => rep X.K H d v F
  | .nm i => σ[i]? = some (some v) ∧ F = []
def rA (X : Cx) : Rl (List Opd) (List V) := fun σ H os vs F => match os with
  | [] => vs = [] ∧ F = []
  | o :: os => ∃ v us F1 F2, vs = v :: us ∧ F = F1 ++ F2 ∧ (∀ a ∈ F1, a ∉ F2) ∧ rO X σ H o v F1 ∧ rA X σ H os us F2
def rB : Rl Bool Bool := fun _ _ b b' F => b = b' ∧ F = []
abbrev tO (T : List (Addr × Str)) (X : Cx) (W : WX) (m : M Opd) : TE := tM T X W (rO X) m
abbrev tA (T : List (Addr × Str)) (X : Cx) (W : WX) (m : M (List Opd)) : TA := tM T X W (rA X) m
abbrev tT (T : List (Addr × Str)) (X : Cx) (W : WX) (m : M Bool) : TT := tM T X W rB m
section
variable {T : List (Addr × Str)} {X : Cx} {W : WX} {H H1 H' : Hp} {P P1 P' : Addr → Prop} {σ : Sg}
theorem Step.weak (st : Step T H P H' P') (h : ∀ a, P a → P1 a) (mu : ∀ a, P1 a → ∃ o, H a = some o ∧ Mu o) : Step T H P1 H' P' :=
  ⟨mu, fun a o e n t => st.keep a o e (fun p => n (h a p)) t, fun a o p e t => h a (st.new a o p e t), st.tab⟩
theorem Step.less (st : Step T H P H' P') (h : ∀ a, P1 a → P' a) : Step T H P H' P1 := ⟨st.mu, st.keep, fun a o p e t => st.new a o (h a p) e t, st.tab⟩
/-- what lies aside stays aside -/
theorem Step.frame {F : List Addr} (st : Step T H P H' P') (mu : ∀ a ∈ F, ∃ o, H a = some o ∧ Mu o) : Step T H (fun a => a ∈ F ∨ P a) H' (fun a => a ∈ F ∨ P' a) :=
  ⟨fun a h => h.elim (mu a) (st.mu a), fun a o e n t => st.keep a o e (fun p => n (.inr p)) t, fun a o h e t => h.elim .inl (fun z => .inr (st.new a o z e t)), st.tab⟩
theorem Step.framep {A : Addr → Prop} (st : Step T H P H' P') (mu : ∀ a, A a → ∃ o, H a = some o ∧ Mu o) : Step T H (fun a => A a ∨ P a) H' (fun a => A a ∨ P' a) :=
  ⟨fun a h => h.elim (mu a) (st.mu a), fun a o e n t => st.keep a o e (fun p => n (.inr p)) t, fun a o h e t => h.elim .inl (fun z => .inr (st.new a o z e t)), st.tab⟩
theorem Step.disj {F : List Addr} (st : Step T H P H' P') (mu : ∀ a ∈ F, ∃ o, H a = some o ∧ Mu o) (dj : ∀ a ∈ F, ¬ P a) : ∀ a ∈ F, ¬ P' a := fun a ha p => by
  obtain ⟨o, e, m⟩ := mu a ha
  exact dj a ha (st.new' p e m)
/-- the heap grew -/
structure Fresh (H H' : Hp) (F : List Addr) : Prop where
  keep : ∀ a o, H a = some o → H' a = some o
  new : ∀ a ∈ F, H a = none
theorem Fresh.step {F : List Addr} (f : Fresh H H' F) (mu : ∀ a, P a → ∃ o, H a = some o ∧ Mu o) : Step T H P H' (fun a => a ∈ F ∨ P a) :=
  ⟨mu, fun a o e _ _ => f.keep a o e, fun a o h e _ => h.elim (fun z => by rw [f.new a z] at e; cases e) id, fun h => h.ext f.keep⟩
theorem Fresh.refl : Fresh H H [] := ⟨fun _ _ h => h, fun _ h => by cases h⟩
theorem Fresh.at1 {p : Addr} {o : HO} (n : H p = none) : Fresh H (upd H p o) [p] :=
  ⟨fun a u e => by rw [upd_ne (ne_of_none e n)]; exact e, fun a h => by
    have e : a = p := by simpa using h
    rw [e]; exact n⟩
theorem Fresh.at0 {p : Addr} {o : HO} (n : H p = none) : Fresh H (upd H p o) [] :=
  ⟨fun a u e => by rw [upd_ne (ne_of_none e n)]; exact e, fun a h => by cases h⟩
theorem Fresh.krep {F : List Addr} (f : Fresh H H' F) {K : PySem.W.Frag} {d : D} {v : V} {G : List Addr} (r : rep K H d v G) : rep K H' d v G :=
  rep_step (f.step (T := []) (P := fun _ => False) (fun _ z => z.elim)) d v G r (fun _ _ z => z)
theorem Fresh.kreps {F : List Addr} (f : Fresh H H' F) {K : PySem.W.Frag} {d : List D} {v : List V} {G : List Addr} (r : reps K H d v G) : reps K H' d v G :=
  reps_step (f.step (T := []) (P := fun _ => False) (fun _ z => z.elim)) d v G r (fun _ _ z => z)
theorem SRel.step {G : Gx} {ds : Sd} {Fs : Nat → List Addr} (R : SRel G H σ ds Fs) (st : Step G.T H P H' P') (dj : ∀ a, InF Fs a → ¬ P a) : SRel G H' σ ds Fs :=
  ⟨R.len, fun i d e => by
    obtain ⟨v, e1, r⟩ := R.at_ i d e
    exact ⟨v, e1, rep_step st d v _ r fun a ha => dj a ⟨i, ha⟩⟩, R.no, R.dj, st.tab R.tab⟩
theorem SRel.fresh {G : Gx} {ds : Sd} {Fs : Nat → List Addr} {F : List Addr} (R : SRel G H σ ds Fs) (f : Fresh H H' F) : SRel G H' σ ds Fs :=
  R.step (f.step (P := fun _ => False) (fun _ z => z.elim)) (fun _ _ z => z)
theorem Post.step {α β : Type} {rel : Rl α β} {r : Rs Sd α} {Q : β → Hp → Prop} (st : Step T H P H1 P1) (p : Post T X W rel H P σ r Q) : Post T X W rel H1 P1 σ r Q := by
  cases r with
  | ok a ds' => exact fun b F H' Fs' h1 h2 h3 h4 => p b F H' Fs' h1 h2 h3 (st.trans h4)
  | exc c w ds' => exact fun C x v H' Fs' h1 h2 h3 h4 h5 => p C x v H' Fs' h1 h2 h3 h4 (st.trans h5)
  | stuck => exact p
theorem tM_bind {α β α' β' : Type} {rel : Rl α β} {rel' : Rl α' β'} {m : M α} {k : α → M α'} {Q : β' → Hp → Prop} {R : β → Hp → Prop} (h : tM T X W rel' (mBind m k) σ H Q)
    (hk : ∀ a ds1 b F H1 Fs1, rel σ H1 a b F → SRel (gx T X) H1 σ ds1 Fs1 → (∀ x ∈ F, ¬ InF Fs1 x) → Post T X W rel' H1 (fun x => x ∈ F ∨ InF Fs1 x) σ (k a ds1) Q → R b H1) : tM T X W rel m σ H R := by
  obtain ⟨ds, Fs, R0, p⟩ := h
  refine ⟨ds, Fs, R0, ?_⟩
  unfold mBind at p
  cases e : m ds with
  | ok a ds1 =>
    rw [e] at p
    exact fun b F H1 Fs1 r1 R1 dj st => hk a ds1 b F H1 Fs1 r1 R1 dj (Post.step st p)
  | exc c w ds' =>
    rw [e] at p
    exact p
  | stuck =>
    rw [e] at p
    exact p.elim
theorem rO_mu {o : Opd} {v : V} {F : List Addr} (r : rO X σ H o v F) : ∀ a ∈ F, ∃ u, H a = some u ∧ Mu u := by
  cases o with
  | own d => exact rep_mu d v F r
  | nm i =>
    intro a ha
    rw [r.2] at ha; cases ha
theorem rO_step {o : Opd} {v : V} {F : List Addr} (st : Step T H P H' P') (r : rO X σ H o v F) (n : ∀ a ∈ F, ¬ P a) : rO X σ H' o v F := by
  cases o with
  | own d => exact rep_step st d v F r n
  | nm i => exact r
theorem rA_mu : ∀ {os : List Opd} {vs : List V} {F : List Addr}, rA X σ H os vs F → ∀ a ∈ F, ∃ u, H a = some u ∧ Mu u
  | [], _, _, r, a, ha => by rw [r.2] at ha; cases ha
  | o :: os, _, _, r, a, ha => by
    obtain ⟨v, us, F1, F2, rfl, rfl, _, r1, r2⟩ := r
    rcases List.mem_append.mp ha with h | h
    · exact rO_mu r1 a h
    · exact rA_mu r2 a h
/-- a list of arguments -/
def mNil : M (List Opd) := mRet []
def mCons (m : M Opd) (ms : M (List Opd)) : M (List Opd) := mBind m fun o => mBind ms fun os => mRet (o :: os)
theorem tA_nil {R : List V → Hp → Prop} (h : tA T X W mNil σ H R) : tNil σ H R := by
  obtain ⟨ds, Fs, R0, p⟩ := h
  exact p [] [] H Fs ⟨rfl, rfl⟩ R0 (fun _ h => by cases h) ((Step.refl R0.mu).less fun a h => h.elim (fun z => by cases z) id)
theorem tA_cons {m : M Opd} {ms : M (List Opd)} {R : List V → Hp → Prop} (h : tA T X W (mCons m ms) σ H R) : tCons (tO T X W m) (tA T X W ms) σ H R := by
  refine tM_bind h fun o ds1 v F H1 Fs1 r1 R1 dj p => ⟨ds1, Fs1, R1, ?_⟩
  unfold mBind at p
  have mu1 := rO_mu r1
  cases e : ms ds1 with
  | ok os ds2 =>
    rw [e] at p
    refine fun us F2 H2 Fs2 r2 R2 dj2 st => p (v :: us) (F ++ F2) H2 Fs2 ⟨v, us, F, F2, rfl, rfl, fun a h1 h2 => ?_, rO_step st r1 dj, r2⟩ R2 (fun a ha => ?_) ?_
    · exact st.disj mu1 dj a h1 (.inl h2)
    · rcases List.mem_append.mp ha with ha | ha
      · exact fun z => st.disj mu1 dj a ha (.inr z)
      · exact dj2 a ha
    · refine (st.frame mu1).less fun a h => ?_
      rcases h with h | h
      · rcases List.mem_append.mp h with h | h
        · exact .inl h
        · exact .inr (.inl h)
      · exact .inr (.inr h)
  | exc c w ds2 =>
    rw [e] at p
    refine fun C x v' H' Fs' h1 h2 h3 h4 st => p C x v' H' Fs' h1 h2 h3 h4 ((st.frame mu1).less fun a h => .inr h)
  | stuck =>
    rw [e] at p
    exact p.elim
/-- the data that stand at some values -/
def Vw (K : PySem.W.Frag) (H : Hp) : List D → List V → Prop
  | [], vs => vs = []
  | d :: ds, vs => ∃ v us F, vs = v :: us ∧ rep K H d v F ∧ Vw K H ds us
def getAll (s : Sd) : List Opd → Option (List D)
  | [] => some []
  | o :: os => match o.get s, getAll s os with
    | some d, some ds => some (d :: ds)
    | _, _ => none
theorem join_some {s : Sd} {i : Nat} {d : D} (h : (s[i]?).join = some d) : s[i]? = some (some d) := by
  cases e : s[i]? with
  | none => rw [e] at h; cases h
  | some o => rw [e] at h; simp at h; rw [h]
theorem rO_get {o : Opd} {v : V} {F : List Addr} {ds : Sd} {Fs : Nat → List Addr} {d : D} (r : rO X σ H o v F) (R : SRel (gx T X) H σ ds Fs) (h : o.get ds = some d) : ∃ F', rep X.K H d v F' ∧ ∀ a ∈ F', a ∈ F ∨ InF Fs a := by
  cases o with
  | own d' =>
    have e : d' = d := Option.some.inj h
    subst e
    exact ⟨F, r, fun a ha => .inl ha⟩
  | nm i =>
    obtain ⟨v', e1, r'⟩ := R.at_ i d (join_some h)
    rw [r.1] at e1
    cases e1
    exact ⟨Fs i, r', fun a ha => .inr ⟨i, ha⟩⟩
theorem rA_get : ∀ {os : List Opd} {vs : List V} {F : List Addr} {ds : Sd} {Fs : Nat → List Addr} {l : List D}, rA X σ H os vs F → SRel (gx T X) H σ ds Fs → getAll ds os = some l → Vw X.K H l vs
  | [], _, _, _, _, l, r, _, h => by
    have e : [] = l := Option.some.inj h
    subst e
    exact r.1
  | o :: os, _, _, ds, Fs, l, r, R, h => by
    obtain ⟨v, us, F1, F2, rfl, rfl, _, r1, r2⟩ := r
    unfold getAll at h
    cases e1 : o.get ds with
    | none => rw [e1] at h; cases h
    | some d =>
      cases e2 : getAll ds os with
      | none => rw [e1, e2] at h; cases h
      | some l' =>
        rw [e1, e2] at h
        cases h
        obtain ⟨F', r', _⟩ := rO_get r1 R e1
        exact ⟨v, us, F', rfl, r', rA_get r2 R e2⟩
/-- an operation on data, its rule on values -/
def RN (K : PySem.W.Frag) (r : List V → Hp → VK → Prop) (f : List D → Option D) : Prop :=
  ∀ (H : Hp) (vs : List V) (ds : List D) (d' : D) (Q : VK), Vw K H ds vs → f ds = some d' → (∀ v' F' H', rep K H' d' v' F' → Fresh H H' F' → Q v' H') → r vs H Q
def mApp (ms : M (List Opd)) (f : List D → Option D) : M Opd := mBind ms fun os s => match getAll s os with
  | some ds => (match f ds with | some d => .ok (.own d) s | none => .stuck)
  | none => .stuck
theorem tA_app {ms : M (List Opd)} {f : List D → Option D} {r : List V → Hp → VK → Prop} {Q : VK} (hr : RN X.K r f) (h : tO T X W (mApp ms f) σ H Q) : tA T X W ms σ H fun vs H1 => r vs H1 Q := by
  refine tM_bind h fun os ds1 vs F H1 Fs1 r1 R1 dj p => ?_
  cases e1 : getAll ds1 os with
  | none => simp only [e1] at p; exact p.elim
  | some ds =>
    cases e2 : f ds with
    | none => simp only [e1, e2] at p; exact p.elim
    | some d =>
      simp only [e1, e2] at p
      refine hr H1 vs ds d Q (rA_get r1 R1 e1) e2 fun v' F' H' rp fr => p v' F' H' Fs1 rp (R1.fresh fr) (fun a ha z => ?_) ?_
      · obtain ⟨o, e, _⟩ := R1.mu a z
        rw [fr.new a ha] at e; cases e
      · refine ((fr.step (P := fun x => x ∈ F ∨ InF Fs1 x) fun a h => h.elim (rA_mu r1 a) (R1.mu a))).less fun a h => h.elim .inl fun z => .inr (.inr z)
end
end TQ
set_option maxHeartbeats 4000000
namespace TQ
open PySem PySem.Spec PyProof.Rows L2
structure SO (T : List (Addr × Str)) (X : Cx) (W : WX) (e : Expr) (m : M Opd) : Prop where
  run : PE X e (tO T X W m)
structure SA (T : List (Addr × Str)) (X : Cx) (W : WX) (es : List Expr) (m : M (List Opd)) : Prop where
  run : PA X es (tA T X W m)
structure ST (T : List (Addr × Str)) (X : Cx) (W : WX) (e : Expr) (m : M Bool) : Prop where
  run : PT X e (tT T X W m)
theorem PE.imp {X : Cx} {e : Expr} {t t' : TE} (h : PE X e t) (hi : ∀ σ H Q, t' σ H Q → t σ H Q) : PE X e t' := ⟨fun pins s σ H Q I q => h.run pins s σ H Q I (hi _ _ _ q)⟩
theorem PA.imp {X : Cx} {e : List Expr} {t t' : TA} (h : PA X e t) (hi : ∀ σ H Q, t' σ H Q → t σ H Q) : PA X e t' := ⟨fun pos pins s σ H Q I q => h.run pos pins s σ H Q I (hi _ _ _ q)⟩
theorem PT.imp {X : Cx} {e : Expr} {t t' : TT} (h : PT X e t) (hi : ∀ σ H Q, t' σ H Q → t σ H Q) : PT X e t' := ⟨fun pins s σ H Q I q => h.run pins s σ H Q I (hi _ _ _ q)⟩
theorem PS.imp {X : Cx} {e : Stmt} {t t' : TS} (h : PS X e t) (hi : ∀ D σ H, t' D σ H → t D σ H) : PS X e t' := ⟨fun pins s σ H D I q => h.run pins s σ H D I (hi _ _ _ q)⟩
theorem PSs.imp {X : Cx} {e : List Stmt} {t t' : TS} (h : PSs X e t) (hi : ∀ D σ H, t' D σ H → t D σ H) : PSs X e t' := ⟨fun pins s σ H D I q => h.run pins s σ H D I (hi _ _ _ q)⟩
section
variable {T : List (Addr × Str)} {X : Cx} {W : WX} {H H1 H' : Hp} {P P1 P' : Addr → Prop} {σ : Sg}
/-! ### names, constants -/
def mNm (i : Nat) : M Opd := fun s => match (s[i]?).join with
  | some _ => .ok (.nm i) s
  | none => .stuck
def mC (d : D) : M Opd := mRet (.own d)
theorem so_nm (i : Nat) {x : Str} {pos : Pos} (hN : X.N[i]? = some x := by rfl) (hv : Vis X.env.scope x := by first | exact Or.inl rfl | exact Or.inr (Or.inl rfl) | exact Or.inr (Or.inr rfl)) (hd : (x == ("__debug__" : Str)) = false := by decide)
    (hcd : (x == ("__classdict__" : Str)) = false := by decide) : SO T X W (.Name x pos) (mNm i) := by
  refine ⟨PE.imp (pe_var (i := i) hN hv hd hcd) fun σ H Q h => ?_⟩
  obtain ⟨ds, Fs, R, p⟩ := h
  unfold mNm at p
  cases e : (ds[i]?).join with
  | none => rw [e] at p; exact p.elim
  | some d =>
    rw [e] at p
    obtain ⟨v, e1, r⟩ := R.at_ i d (join_some e)
    exact ⟨v, e1, p v [] H Fs ⟨e1, rfl⟩ R (fun _ z => by cases z) ((Step.refl R.mu).less fun a z => z.elim (fun y => by cases y) id)⟩
theorem tO_const {d : D} {v : V} {Q : VK} (h : tO T X W (mC d) σ H Q) (r : rep X.K H d v []) : Q v H := by
  obtain ⟨ds, Fs, R, p⟩ := h
  exact p v [] H Fs r R (fun _ z => by cases z) ((Step.refl R.mu).less fun a z => z.elim (fun y => by cases y) id)
theorem so_int {i : Int} {j pos} : SO T X W (.Constant (.int i) j pos) (mC (.int i)) := ⟨PE.imp pe_int fun _ _ _ h => tO_const h ⟨rfl, rfl⟩⟩
theorem so_bl {b : Bool} {j pos} : SO T X W (.Constant (.bool b) j pos) (mC (.bl b)) := ⟨PE.imp pe_bl fun _ _ _ h => tO_const h ⟨rfl, rfl⟩⟩
theorem so_non {j pos} : SO T X W (.Constant .none j pos) (mC .non) := ⟨PE.imp pe_non fun _ _ _ h => tO_const h ⟨rfl, rfl⟩⟩
theorem so_str {x : Str} {j pos} : SO T X W (.Constant (.str x) j pos) (mC (.str x)) := ⟨PE.imp pe_str fun _ _ _ h => tO_const h ⟨rfl, rfl⟩⟩
/-- a module's constant -/
theorem so_glob {d : D} {x : Str} {v : V} {u : Value} {pos : Pos} (hg : Gl X x) (hm : X.mg x = some u) (r : RelV v u) (hr : ∀ H, rep X.K H d v []) (hd : (x == ("__debug__" : Str)) = false := by decide) : SO T X W (.Name x pos) (mC d) :=
  ⟨PE.imp (pe_glob hg hm r hd) fun _ _ _ h => tO_const h (hr _)⟩
/-! ### arguments, operators, built-ins -/
theorem sa_nil : SA T X W [] mNil := ⟨PA.imp pa_nil fun _ _ _ h => tA_nil h⟩
theorem sa_cons {e : Expr} {es : List Expr} {m : M Opd} {ms : M (List Opd)} (h : SO T X W e m) (hs : SA T X W es ms) (hst : starEach (e :: es) X.env = (false, eval e X.env) :: starEach es X.env := by rfl) : SA T X W (e :: es) (mCons m ms) :=
  ⟨PA.imp (pa_cons h.run hs.run hst) fun _ _ _ h => tA_cons h⟩
abbrev m1 (a : M Opd) : M (List Opd) := mCons a mNil
abbrev m2 (a b : M Opd) : M (List Opd) := mCons a (mCons b mNil)
theorem tA_one {m : M Opd} {R : List V → Hp → Prop} (h : tA T X W (m1 m) σ H R) : tO T X W m σ H fun x H1 => R [x] H1 := by
  have h' := tA_cons h
  unfold tCons at h'
  obtain ⟨ds, Fs, R0, p⟩ := h'
  refine ⟨ds, Fs, R0, ?_⟩
  cases e : m ds with
  | ok a s => rw [e] at p; exact fun b F H' Fs' h1 h2 h3 h4 => tA_nil (p b F H' Fs' h1 h2 h3 h4)
  | exc c w s => rw [e] at p; exact p
  | stuck => rw [e] at p; exact p
theorem tM_imp {α β : Type} {rel : Rl α β} {m : M α} {Q Q' : β → Hp → Prop} (h : tM T X W rel m σ H Q) (hq : ∀ b H, Q b H → Q' b H) : tM T X W rel m σ H Q' := by
  obtain ⟨ds, Fs, R0, p⟩ := h
  refine ⟨ds, Fs, R0, ?_⟩
  cases e : m ds with
  | ok a s => rw [e] at p; exact fun b F H' Fs' h1 h2 h3 h4 => hq _ _ (p b F H' Fs' h1 h2 h3 h4)
  | exc c w s => rw [e] at p; exact p
  | stuck => rw [e] at p; exact p
theorem tA_two {ma mb : M Opd} {R : List V → Hp → Prop} (h : tA T X W (m2 ma mb) σ H R) : tO T X W ma σ H fun x H1 => tO T X W mb σ H1 fun y H2 => R [x, y] H2 :=
  tM_imp (tA_cons h) fun _ _ q => tA_one q
/-- a two-place rule as a rule on lists -/
def r2L (r : R2) : List V → Hp → VK → Prop := fun vs H Q => ∃ x y, vs = [x, y] ∧ r x y H Q
def r1L (r : V → Hp → VK → Prop) : List V → Hp → VK → Prop := fun vs H Q => ∃ x, vs = [x] ∧ r x H Q
theorem so_bin {op : Operator} {a b : Expr} {pos : Pos} {ma mb : M Opd} {r : R2} {f : List D → Option D} (ho : OpR X (binaryOp op) r) (hf : RN X.K (r2L r) f) (ha : SO T X W a ma) (hb : SO T X W b mb) : SO T X W (.BinOp a op b pos) (mApp (m2 ma mb) f) :=
  ⟨PE.imp (pe_op ho ha.run hb.run) fun σ H Q h => tM_imp (tA_two (tA_app hf h)) fun x H1 q => tM_imp q fun y H2 ⟨x', y', e, q⟩ => by cases e; exact q⟩
theorem so_cmp {op : CmpOp} {a b : Expr} {pos : Pos} {ma mb : M Opd} {r : R2} {f : List D → Option D} (ho : OpR X (compareOp op) r) (hf : RN X.K (r2L r) f) (ha : SO T X W a ma) (hb : SO T X W b mb) (hm : behindInMarks op b = false) : SO T X W (.Compare a [op] [b] pos) (mApp (m2 ma mb) f) :=
  ⟨PE.imp (pe_cmpR ho ha.run hb.run hm) fun σ H Q h => tM_imp (tA_two (tA_app hf h)) fun x H1 q => tM_imp q fun y H2 ⟨x', y', e, q⟩ => by cases e; exact q⟩
theorem so_un {op : UnaryOp} {a : Expr} {pos : Pos} {ma : M Opd} {r : V → Hp → VK → Prop} {f : List D → Option D} (ho : UnR X (unaryOp op) r) (hf : RN X.K (r1L r) f) (ha : SO T X W a ma) : SO T X W (.UnaryOp op a pos) (mApp (m1 ma) f) :=
  ⟨PE.imp (pe_un ho ha.run) fun σ H Q h => tM_imp (tA_one (tA_app hf h)) fun x H1 ⟨x', e, q⟩ => by cases e; exact q⟩
theorem so_ix {a b : Expr} {pos : Pos} {ma mb : M Opd} {r : R2} {f : List D → Option D} (ho : IxR X r) (hf : RN X.K (r2L r) f) (ha : SO T X W a ma) (hb : SO T X W b mb) (hs : PlainIx b) : SO T X W (.Subscript a b pos) (mApp (m2 ma mb) f) :=
  ⟨PE.imp (pe_ix ho ha.run hb.run hs) fun σ H Q h => tM_imp (tA_two (tA_app hf h)) fun x H1 q => tM_imp q fun y H2 ⟨x', y', e, q⟩ => by cases e; exact q⟩
/-- f(e, ..) of a built-in function; of a built-in type -/
theorem so_bi {x : Str} {p pos : Pos} {e : Expr} {es : List Expr} {id : String} {ms : M (List Opd)} {r : List V → Hp → VK → Prop} {f : List D → Option D} (hc : CallR X (.builtin id) r) (hf : RN X.K r f) (hg : Gl X x) (hm : X.mg x = none) (hv : bootBuiltins x = some (.builtin id))
    (ha : SA T X W (e :: es) ms) (hn : x ≠ "__name__" := by decide) (hdb : (x == ("__debug__" : Str)) = false := by decide)
    (he : starEach (e :: es) X.env = (false, eval e X.env) :: starEach es X.env := by rfl) (hpl : (backTo pos (starEach es X.env)).any (·.1) = false := by rfl) : SO T X W (.Call (.Name x p) (e :: es) [] pos) (mApp ms f) :=
  ⟨PE.imp (pe_callB hc hg hm hv ha.run hn hdb he hpl) fun σ H Q h => tA_app hf h⟩
theorem so_ty {x : Str} {p pos : Pos} {e : Expr} {es : List Expr} {id : String} {ms : M (List Opd)} {r : List V → Hp → VK → Prop} {f : List D → Option D} (hc : CallR X (.type id) r) (hf : RN X.K r f) (hg : Gl X x) (hm : X.mg x = none) (hv : bootBuiltins x = some (.type id))
    (ha : SA T X W (e :: es) ms) (hn : x ≠ "__name__" := by decide) (hdb : (x == ("__debug__" : Str)) = false := by decide)
    (he : starEach (e :: es) X.env = (false, eval e X.env) :: starEach es X.env := by rfl) (hpl : (backTo pos (starEach es X.env)).any (·.1) = false := by rfl) : SO T X W (.Call (.Name x p) (e :: es) [] pos) (mApp ms f) :=
  ⟨PE.imp (pe_callTy hc hg hm hv ha.run hn hdb he hpl) fun σ H Q h => tA_app hf h⟩
/-! ### into own hands: pure data is copied, what may be written leaves its name -/
def toOwn (o : Opd) : M D := fun s => match o with
  | .own d => .ok d s
  | .nm i => match (s[i]?).join with
    | some d => if d.pure then .ok d s else .ok d (s.set i none)
    | none => .stuck
def ownAll : List Opd → M (List D)
  | [] => mRet []
  | o :: os => mBind (toOwn o) fun d => mBind (ownAll os) fun ds => mRet (d :: ds)
theorem SRel.drop {G : Gx} {ds : Sd} {Fs : Nat → List Addr} (R : SRel G H σ ds Fs) (i : Nat) : SRel G H σ (ds.set i none) (fun j => if j = i then [] else Fs j) := by
  refine ⟨by rw [List.length_set]; exact R.len, fun j d e => ?_, fun j h => ?_, fun j k a hjk h1 h2 => ?_, R.tab⟩
  · by_cases hj : j = i
    · subst hj
      by_cases hl : j < ds.length
      · rw [List.getElem?_set_self hl] at e; cases e
      · rw [List.getElem?_eq_none (by simpa using hl)] at e; cases e
    · rw [List.getElem?_set_ne (Ne.symm hj)] at e
      simp only [if_neg hj]
      exact R.at_ j d e
  · by_cases hj : j = i
    · simp [hj]
    · simp only [if_neg hj]
      refine R.no j fun d e => h d ?_
      rw [List.getElem?_set_ne (Ne.symm hj)]; exact e
  · by_cases hj : j = i
    · simp [hj] at h1
    · by_cases hk : k = i
      · simp [hk] at h2
      · simp only [if_neg hj] at h1
        simp only [if_neg hk] at h2
        exact R.dj j k a hjk h1 h2
theorem toOwn_ok {o : Opd} {v : V} {F : List Addr} {ds ds' : Sd} {Fs : Nat → List Addr} {d : D} (r : rO X σ H o v F) (R : SRel (gx T X) H σ ds Fs) (dj : ∀ x ∈ F, ¬ InF Fs x) (h : toOwn o ds = .ok d ds') :
    ∃ F' Fs', rep X.K H d v F' ∧ SRel (gx T X) H σ ds' Fs' ∧ (∀ x ∈ F', ¬ InF Fs' x) ∧ (∀ a ∈ F', a ∈ F ∨ InF Fs a) ∧ (∀ a, InF Fs' a → InF Fs a) := by
  cases o with
  | own d' =>
    have e : Rs.ok d' ds = .ok d ds' := h
    cases e
    exact ⟨F, Fs, r, R, dj, fun a h => .inl h, fun a h => h⟩
  | nm i =>
    unfold toOwn at h
    cases e : (ds[i]?).join with
    | none => simp only [e] at h; cases h
    | some d' =>
      simp only [e] at h
      obtain ⟨v', e1, r'⟩ := R.at_ i d' (join_some e)
      obtain ⟨rv, rfl⟩ := r
      rw [rv] at e1; cases e1
      cases hp : d'.pure with
      | true =>
        rw [hp, if_pos rfl] at h
        cases h
        exact ⟨[], Fs, rep_pure0 hp r', R, fun _ z => (by cases z), fun _ z => (by cases z), fun _ z => z⟩
      | false =>
        rw [hp] at h
        simp only [Bool.false_eq_true, if_false] at h
        cases h
        refine ⟨Fs i, _, r', R.drop i, fun x hx ⟨j, hj⟩ => ?_, fun a h => .inr ⟨i, h⟩, fun a ⟨j, hj⟩ => ?_⟩
        · by_cases q : j = i
          · simp [q] at hj
          · simp only [if_neg q] at hj
            exact R.dj i j x (Ne.symm q) hx hj
        · by_cases q : j = i
          · simp [q] at hj
          · simp only [if_neg q] at hj
            exact ⟨j, hj⟩
theorem toOwn_noexc {o : Opd} {ds ds' : Sd} {c : Str} {w : D} (h : toOwn o ds = .exc c w ds') : False := by
  cases o with
  | own d => cases h
  | nm i =>
    unfold toOwn at h
    cases e : (ds[i]?).join with
    | none => simp only [e] at h; cases h
    | some d' =>
      simp only [e] at h
      split at h <;> cases h
theorem ownAll_noexc : ∀ {os : List Opd} {ds ds' : Sd} {c : Str} {w : D}, ownAll os ds = .exc c w ds' → False
  | [], _, _, _, _, h => by cases h
  | o :: os, ds, ds', c, w, h => by
    unfold ownAll mBind at h
    cases e : toOwn o ds with
    | exc c w s => exact toOwn_noexc e
    | stuck => rw [e] at h; cases h
    | ok d s =>
      rw [e] at h
      simp only at h
      cases e2 : ownAll os s with
      | exc c w s => exact ownAll_noexc e2
      | stuck => rw [e2] at h; cases h
      | ok ds2 s2 => rw [e2] at h; cases h
theorem ownAll_ok : ∀ {os : List Opd} {vs : List V} {F : List Addr} {ds ds' : Sd} {Fs : Nat → List Addr} {l : List D}, rA X σ H os vs F → SRel (gx T X) H σ ds Fs → (∀ x ∈ F, ¬ InF Fs x) → ownAll os ds = .ok l ds' →
    ∃ F' Fs', reps X.K H l vs F' ∧ SRel (gx T X) H σ ds' Fs' ∧ (∀ x ∈ F', ¬ InF Fs' x) ∧ (∀ a ∈ F', a ∈ F ∨ InF Fs a) ∧ (∀ a, InF Fs' a → InF Fs a)
  | [], _, _, _, _, Fs, l, r, R, dj, h => by
    cases h
    exact ⟨[], Fs, ⟨r.1, rfl⟩, R, fun _ z => (by cases z), fun _ z => (by cases z), fun _ z => z⟩
  | o :: os, _, _, ds, ds', Fs, l, r, R, dj, h => by
    obtain ⟨v, us, F1, F2, rfl, rfl, d12, r1, r2⟩ := r
    unfold ownAll mBind at h
    cases e : toOwn o ds with
    | exc c w s => rw [e] at h; cases h
    | stuck => rw [e] at h; cases h
    | ok d s =>
      rw [e] at h
      simp only at h
      cases e2 : ownAll os s with
      | exc c w s => rw [e2] at h; cases h
      | stuck => rw [e2] at h; cases h
      | ok ds2 s2 =>
        rw [e2] at h
        simp only at h
        unfold mRet at h
        cases h
        obtain ⟨G1, Fs1, q1, R1, j1, s1, t1⟩ := toOwn_ok r1 R (fun x hx => dj x (List.mem_append_left _ hx)) e
        obtain ⟨G2, Fs2, q2, R2, j2, s2, t2⟩ := ownAll_ok r2 R1 (fun x hx z => dj x (List.mem_append_right _ hx) (t1 x z)) e2
        refine ⟨G1 ++ G2, Fs2, ⟨v, us, G1, G2, rfl, rfl, fun a h1 h2 => ?_, q1, q2⟩, R2, fun x hx => ?_, fun a ha => ?_, fun a z => t1 a (t2 a z)⟩
        · rcases s2 a h2 with z | z
          · rcases s1 a h1 with y | y
            · exact d12 a y z
            · exact dj a (List.mem_append_right _ z) y
          · exact j1 a h1 z
        · rcases List.mem_append.mp hx with hx | hx
          · exact fun z => j1 x hx (t2 x z)
          · exact j2 x hx
        · rcases List.mem_append.mp ha with ha | ha
          · exact (s1 a ha).imp (List.mem_append_left _) id
          · exact (s2 a ha).imp (List.mem_append_right _) (t1 a)
theorem ownAll_len : ∀ {os : List Opd} {ds ds' : Sd} {l : List D}, ownAll os ds = .ok l ds' → l.length = os.length
  | [], _, _, l, h => by cases h; rfl
  | o :: os, ds, ds', l, h => by
    unfold ownAll mBind at h
    cases e : toOwn o ds with
    | exc c w s => rw [e] at h; cases h
    | stuck => rw [e] at h; cases h
    | ok d s =>
      rw [e] at h
      simp only at h
      cases e2 : ownAll os s with
      | exc c w s => rw [e2] at h; cases h
      | stuck => rw [e2] at h; cases h
      | ok ds2 s2 =>
        rw [e2] at h
        cases h
        simp [ownAll_len e2]
/-! ### displays -/
def mTup (ms : M (List Opd)) : M Opd := mBind ms fun os => mBind (ownAll os) fun l => mRet (.own (.tup l))
def mLst (ms : M (List Opd)) : M Opd := mBind ms fun os => mBind (ownAll os) fun l => mRet (.own (.lst l))
theorem rA_len : ∀ {os : List Opd} {vs : List V} {F : List Addr}, rA X σ H os vs F → vs.length = os.length
  | [], _, _, r => by rw [r.1]; rfl
  | o :: os, _, _, r => by
    obtain ⟨v, us, F1, F2, rfl, rfl, _, _, r2⟩ := r
    simp [rA_len r2]
/-- a new object made of what the arguments are -/
theorem tA_new {ms : M (List Opd)} {mk : List D → D} {Q : VK} {R : List V → Hp → Prop} (h : tO T X W (mBind ms fun os => mBind (ownAll os) fun l => mRet (.own (mk l))) σ H Q)
    (hk : ∀ vs H1 l F, reps X.K H1 l vs F → (∀ v F' H2, rep X.K H2 (mk l) v F' → (∀ a ∈ F', a ∈ F ∨ H1 a = none) → (∀ a o, H1 a = some o → H2 a = some o) → Q v H2) → R vs H1) : tA T X W ms σ H R := by
  refine tM_bind h fun os ds1 vs F H1 Fs1 r1 R1 dj p => ?_
  unfold mBind at p
  cases e : ownAll os ds1 with
  | exc c w s => exact (ownAll_noexc e).elim
  | stuck => simp only [e] at p; exact p.elim
  | ok l s =>
    simp only [e] at p
    obtain ⟨F', Fs', q1, R', j', s', t'⟩ := ownAll_ok r1 R1 dj e
    refine hk vs H1 l F' q1 fun v G H2 rp sub keep => ?_
    have fr : Fresh H1 H2 [] := ⟨keep, fun _ z => by cases z⟩
    refine p v G H2 Fs' rp (R'.fresh fr) (fun a ha z => ?_) ?_
    · rcases sub a ha with y | y
      · exact j' a y z
      · obtain ⟨o, e, _⟩ := R'.mu a z
        rw [y] at e; cases e
    · refine ⟨fun a z => z.elim (rA_mu r1 a) (R1.mu a), fun a o e _ _ => keep a o e, fun a o z e _ => ?_, fun h => h.ext keep⟩
      rcases z with z | z
      · rcases sub a z with y | y
        · exact s' a y
        · rw [y] at e; cases e
      · exact .inr (t' a z)
theorem so_tup {es : List Expr} {x1 : Nat} {pos : Pos} {ms : M (List Opd)} (h : SA T X W es ms) (hl : ∀ s os s', ms s = .ok os s' → os.length ≤ sizeLine) : SO T X W (.Tuple es x1 pos) (mTup ms) := by
  refine ⟨PE.imp (pe_tup h.run) fun σ H Q q => ?_⟩
  unfold tTup
  obtain ⟨ds, Fs, R0, p⟩ := q
  have q' : tO T X W (mTup ms) σ H Q := ⟨ds, Fs, R0, p⟩
  have q2 := tA_new (R := fun xs H1 => ∀ p, xs.length ≤ sizeLine → H1 p = none → Q (.ref p) (upd H1 p (.tup xs))) (mk := .tup) q' fun vs H1 l F r c p _ hp =>
    c _ F _ ⟨p, vs, rfl, .inl (.inl upd_same), (Fresh.at0 hp).kreps r⟩ (fun a ha => .inl ha) (Fresh.at0 hp).keep
  obtain ⟨ds2, Fs2, R2, p2⟩ := q2
  refine ⟨ds2, Fs2, R2, ?_⟩
  cases e : ms ds2 with
  | exc c w s => rw [e] at p2; exact p2
  | stuck => rw [e] at p2; exact p2
  | ok os s =>
    rw [e] at p2
    intro vs F H' Fs' h1 h2 h3 h4
    have hz : vs.length ≤ sizeLine := by rw [rA_len h1]; exact hl _ _ _ e
    exact ⟨hz, fun p hp => p2 vs F H' Fs' h1 h2 h3 h4 p hz hp⟩
theorem so_lst {es : List Expr} {pos : Pos} {ms : M (List Opd)} (h : SA T X W es ms) (hl : ∀ s os s', ms s = .ok os s' → os.length ≤ sizeLine) : SO T X W (.List es pos) (mLst ms) := by
  refine ⟨PE.imp (pe_lst h.run) fun σ H Q q => ?_⟩
  unfold tLst
  obtain ⟨ds, Fs, R0, p⟩ := q
  have q' : tO T X W (mLst ms) σ H Q := ⟨ds, Fs, R0, p⟩
  have q2 := tA_new (R := fun xs H1 => ∀ p, xs.length ≤ sizeLine → H1 p = none → Q (.ref p) (upd H1 p (.lst xs))) (mk := .lst) q' fun vs H1 l F r c p _ hp =>
    c _ (p :: F) _ ⟨p, vs, F, rfl, upd_same, rfl, (fun hF => by
      obtain ⟨o, e, _⟩ := reps_mu l vs F r p hF
      rw [hp] at e; cases e), (Fresh.at0 hp).kreps r⟩ (fun a ha => (List.mem_cons.mp ha).elim (fun z => .inr (by rw [z]; exact hp)) .inl) (Fresh.at0 hp).keep
  obtain ⟨ds2, Fs2, R2, p2⟩ := q2
  refine ⟨ds2, Fs2, R2, ?_⟩
  cases e : ms ds2 with
  | exc c w s => rw [e] at p2; exact p2
  | stuck => rw [e] at p2; exact p2
  | ok os s =>
    rw [e] at p2
    intro vs F H' Fs' h1 h2 h3 h4
    have hz : vs.length ≤ sizeLine := by rw [rA_len h1]; exact hl _ _ _ e
    exact ⟨hz, fun p hp => p2 vs F H' Fs' h1 h2 h3 h4 p hz hp⟩
/-- how many arguments there are -/
def Len (ms : M (List Opd)) (n : Nat) : Prop := ∀ s os s', ms s = .ok os s' → os.length = n
theorem len_nil : Len mNil 0 := fun s os s' h => by cases h; rfl
theorem len_cons {m : M Opd} {ms : M (List Opd)} {n : Nat} (h : Len ms n) : Len (mCons m ms) (n + 1) := fun s os s' e => by
  unfold mCons mBind at e
  cases e1 : m s with
  | exc c w s => rw [e1] at e; cases e
  | stuck => rw [e1] at e; cases e
  | ok o s1 =>
    rw [e1] at e
    simp only at e
    cases e2 : ms s1 with
    | exc c w s => rw [e2] at e; cases e
    | stuck => rw [e2] at e; cases e
    | ok os2 s2 =>
      rw [e2] at e
      cases e
      simp [h _ _ _ e2]
theorem Len.le {ms : M (List Opd)} {n : Nat} (h : Len ms n) (hn : n ≤ sizeLine) : ∀ s os s', ms s = .ok os s' → os.length ≤ sizeLine := fun s os s' e => by rw [h s os s' e]; exact hn
end
end TQ
set_option maxHeartbeats 4000000
namespace TQ
open PySem PySem.Spec PyProof.Rows L2
section
variable {T : List (Addr × Str)} {X : Cx} {W : WX} {H H1 H' : Hp} {P P1 P' : Addr → Prop} {σ : Sg}
/-! ### tests -/
theorem Post.less {α β : Type} {rel : Rl α β} {r : Rs Sd α} {Q : β → Hp → Prop} (h : ∀ a, P1 a → P a) (mu : ∀ a, P a → ∃ o, H a = some o ∧ Mu o) (p : Post T X W rel H P σ r Q) : Post T X W rel H P1 σ r Q := by
  cases r with
  | ok a ds' => exact fun b F H' Fs' h1 h2 h3 h4 => p b F H' Fs' h1 h2 h3 (h4.weak h mu)
  | exc c w ds' => exact fun C x v H' Fs' h1 h2 h3 h4 h5 => p C x v H' Fs' h1 h2 h3 h4 (h5.weak h mu)
  | stuck => exact p
/-- go on from here, temporaries forgotten -/
theorem tM_go {α β : Type} {rel : Rl α β} {k : M α} {Q : β → Hp → Prop} {F : List Addr} {ds1 : Sd} {Fs1 : Nat → List Addr} (R1 : SRel (gx T X) H1 σ ds1 Fs1) (mu : ∀ a ∈ F, ∃ o, H1 a = some o ∧ Mu o)
    (p : Post T X W rel H1 (fun x => x ∈ F ∨ InF Fs1 x) σ (k ds1) Q) : tM T X W rel k σ H1 Q :=
  ⟨ds1, Fs1, R1, Post.less (fun a h => .inr h) (fun a h => h.elim (mu a) (R1.mu a)) p⟩
def mTest (m : M Opd) : M Bool := mBind m fun o s => match o.get s with
  | some (.bl b) => .ok b s
  | _ => .stuck
theorem tO_of_test {m : M Opd} {R : Bool → Hp → Prop} (h : tT T X W (mTest m) σ H R) : tO T X W m σ H fun x H1 => ∃ c, x = .bl c ∧ R c H1 := by
  refine tM_bind h fun o ds1 v F H1 Fs1 r1 R1 dj p => ?_
  cases e : o.get ds1 with
  | none => simp only [e] at p; exact p.elim
  | some d =>
    cases d with
    | bl b =>
      simp only [e] at p
      obtain ⟨F', r', _⟩ := rO_get r1 R1 e
      exact ⟨b, r'.1, p b [] H1 Fs1 ⟨rfl, rfl⟩ R1 (fun _ z => by cases z) ((Step.refl fun a z => z.elim (rO_mu r1 a) (R1.mu a)).less fun a z => z.elim (fun y => by cases y) .inr)⟩
    | _ => simp only [e] at p; exact p.elim
theorem st_val {e : Expr} {m : M Opd} (h : SO T X W e m) (he : ∀ whole, isTrue e X.env whole = (do let v ← whole; standAt e.pos; holding [v] (truthy v)) := by intro _; rfl) : ST T X W e (mTest m) :=
  ⟨PT.imp (pt_val h.run he) fun σ H Q q => tO_of_test q⟩
def mAndT (a b : M Bool) : M Bool := mBind a fun c => if c then b else mRet false
def mOrT (a b : M Bool) : M Bool := mBind a fun c => if c then mRet true else b
def mNotT (a : M Bool) : M Bool := mBind a fun c => mRet (!c)
theorem tT_ret {c : Bool} {Q : Bool → Hp → Prop} {F : List Addr} {ds1 : Sd} {Fs1 : Nat → List Addr} (R1 : SRel (gx T X) H1 σ ds1 Fs1) (mu : ∀ a ∈ F, ∃ o, H1 a = some o ∧ Mu o)
    (p : Post T X W rB H1 (fun x => x ∈ F ∨ InF Fs1 x) σ (mRet c ds1) Q) : Q c H1 :=
  p c [] H1 Fs1 ⟨rfl, rfl⟩ R1 (fun _ z => by cases z) ((Step.refl fun a z => z.elim (mu a) (R1.mu a)).less fun a z => z.elim (fun y => by cases y) .inr)
theorem rB_mu {b b' : Bool} {F : List Addr} (r : rB σ H b b' F) : ∀ a ∈ F, ∃ o, H a = some o ∧ Mu o := fun a h => by rw [r.2] at h; cases h
structure SW (T : List (Addr × Str)) (X : Cx) (W : WX) (e : Expr) (m : M Bool) : Prop where
  run : PW X e (tT T X W m)
theorem PW.imp {X : Cx} {e : Expr} {t t' : TT} (h : PW X e t) (hi : ∀ σ H Q, t' σ H Q → t σ H Q) : PW X e t' := ⟨fun wh pins s σ H Q I q => h.run wh pins s σ H Q I (hi _ _ _ q)⟩
theorem sw_and1 {a : Expr} {m : M Bool} {pos : Pos} (h : ST T X W a m) : SW T X W (.BoolOp .And [a] pos) m := ⟨pw_and1 h.run⟩
theorem sw_or1 {a : Expr} {m : M Bool} {pos : Pos} (h : ST T X W a m) : SW T X W (.BoolOp .Or [a] pos) m := ⟨pw_or1 h.run⟩
theorem sw_and {a b : Expr} {rest : List Expr} {m n : M Bool} {pos : Pos} (ha : ST T X W a m) (hb : SW T X W (.BoolOp .And (b :: rest) pos) n) : SW T X W (.BoolOp .And (a :: b :: rest) pos) (mAndT m n) :=
  ⟨PW.imp (pw_and ha.run hb.run) fun σ H Q q => tM_bind q fun c ds1 c' F H1 Fs1 r R1 dj p => by
    have mu := rB_mu r
    obtain ⟨rfl, _⟩ := r
    cases c with
    | true => exact tM_go R1 mu p
    | false => exact tT_ret R1 mu p⟩
theorem sw_or {a b : Expr} {rest : List Expr} {m n : M Bool} {pos : Pos} (ha : ST T X W a m) (hb : SW T X W (.BoolOp .Or (b :: rest) pos) n) : SW T X W (.BoolOp .Or (a :: b :: rest) pos) (mOrT m n) :=
  ⟨PW.imp (pw_or ha.run hb.run) fun σ H Q q => tM_bind q fun c ds1 c' F H1 Fs1 r R1 dj p => by
    have mu := rB_mu r
    obtain ⟨rfl, _⟩ := r
    cases c with
    | false => exact tM_go R1 mu p
    | true => exact tT_ret R1 mu p⟩
theorem st_bool {e : Expr} {m : M Bool} (h : SW T X W e m) : ST T X W e m := ⟨h.run.pt⟩
theorem st_not {a : Expr} {m : M Bool} {pos : Pos} (h : ST T X W a m) : ST T X W (.UnaryOp .Not a pos) (mNotT m) :=
  ⟨PT.imp (pt_not h.run) fun σ H Q q => tM_bind q fun c ds1 c' F H1 Fs1 r R1 dj p => by
    have mu := rB_mu r
    obtain ⟨rfl, _⟩ := r
    exact tT_ret R1 mu p⟩
/-! the same as values -/
def mB (t : M Bool) : M Opd := mBind t fun c => mC (.bl c)
theorem tO_ret {d : D} {v : V} {Q : VK} {F : List Addr} {ds1 : Sd} {Fs1 : Nat → List Addr} (R1 : SRel (gx T X) H1 σ ds1 Fs1) (mu : ∀ a ∈ F, ∃ o, H1 a = some o ∧ Mu o)
    (p : Post T X W (rO X) H1 (fun x => x ∈ F ∨ InF Fs1 x) σ (mC d ds1) Q) (r : rep X.K H1 d v []) : Q v H1 :=
  p v [] H1 Fs1 r R1 (fun _ z => by cases z) ((Step.refl fun a z => z.elim (mu a) (R1.mu a)).less fun a z => z.elim (fun y => by cases y) .inr)
theorem so_not {a : Expr} {m : M Opd} {pos : Pos} (h : SO T X W a m) : SO T X W (.UnaryOp .Not a pos) (mB (mNotT (mTest m))) := by
  refine ⟨PE.imp (pe_not h.run) fun σ H Q q => ?_⟩
  refine tO_of_test (R := fun c H1 => Q (.bl (!c)) H1) ?_
  have q1 : tT T X W (mNotT (mTest m)) σ H (fun c H1 => Q (.bl c) H1) := tM_bind q fun c ds1 c' F H1 Fs1 r R1 dj p => by
    have mu := rB_mu r
    obtain ⟨rfl, _⟩ := r
    exact tO_ret R1 mu p ⟨rfl, rfl⟩
  exact tM_bind q1 fun c ds1 c' F H1 Fs1 r R1 dj p => by
    have mu := rB_mu r
    obtain ⟨rfl, _⟩ := r
    exact tT_ret R1 mu p
def mAndV (a b : M Opd) : M Opd := mBind (mTest a) fun c => if c then b else mC (.bl false)
def mOrV (a b : M Opd) : M Opd := mBind (mTest a) fun c => if c then mC (.bl true) else b
theorem so_one {op} {a : Expr} {pos : Pos} {m : M Opd} (h : SO T X W a m) : SO T X W (.BoolOp op [a] pos) m := ⟨pe_one h.run⟩
theorem so_and {a b : Expr} {rest : List Expr} {pos : Pos} {m n : M Opd} (ha : SO T X W a m) (hb : SO T X W (.BoolOp .And (b :: rest) pos) n) : SO T X W (.BoolOp .And (a :: b :: rest) pos) (mAndV m n) := by
  refine ⟨PE.imp (pe_and ha.run hb.run) fun σ H Q q => ?_⟩
  refine tO_of_test (R := fun c H1 => if c = true then tO T X W n σ H1 Q else Q (.bl false) H1) (tM_bind q fun c ds1 c' F H1 Fs1 r R1 dj p => ?_)
  have mu := rB_mu r
  obtain ⟨rfl, _⟩ := r
  cases c with
  | true => exact tM_go R1 mu p
  | false => exact tO_ret R1 mu p ⟨rfl, rfl⟩
theorem so_or {a b : Expr} {rest : List Expr} {pos : Pos} {m n : M Opd} (ha : SO T X W a m) (hb : SO T X W (.BoolOp .Or (b :: rest) pos) n) : SO T X W (.BoolOp .Or (a :: b :: rest) pos) (mOrV m n) := by
  refine ⟨PE.imp (pe_or ha.run hb.run) fun σ H Q q => ?_⟩
  refine tO_of_test (R := fun c H1 => if c = true then Q (.bl true) H1 else tO T X W n σ H1 Q) (tM_bind q fun c ds1 c' F H1 Fs1 r R1 dj p => ?_)
  have mu := rB_mu r
  obtain ⟨rfl, _⟩ := r
  cases c with
  | false => exact tM_go R1 mu p
  | true => exact tO_ret R1 mu p ⟨rfl, rfl⟩
def mIf {α : Type} (t : M Bool) (a b : M α) : M α := mBind t fun c => if c then a else b
theorem so_if {c a b : Expr} {pos : Pos} {t : M Bool} {m n : M Opd} (hc : ST T X W c t) (ha : SO T X W a m) (hb : SO T X W b n) : SO T X W (.IfExp c a b pos) (mIf t m n) :=
  ⟨PE.imp (pe_ifExp hc.run ha.run hb.run) fun σ H Q q => tM_bind q fun c ds1 c' F H1 Fs1 r R1 dj p => by
    have mu := rB_mu r
    obtain ⟨rfl, _⟩ := r
    cases c with
    | true => exact tM_go R1 mu p
    | false => exact tM_go R1 mu p⟩
/-- an int's value -/
def mInt (m : M Opd) : M Int := mBind m fun o s => match o.get s with
  | some (.int i) => .ok i s
  | _ => .stuck
def rZ : Rl Int Int := fun _ _ b b' F => b = b' ∧ F = []
theorem rZ_mu {b b' : Int} {F : List Addr} (r : rZ σ H b b' F) : ∀ a ∈ F, ∃ o, H a = some o ∧ Mu o := fun a h => by rw [r.2] at h; cases h
theorem tO_of_int {m : M Opd} {R : Int → Hp → Prop} (h : tM T X W rZ (mInt m) σ H R) : tO T X W m σ H fun x H1 => ∃ i, x = .int i ∧ R i H1 := by
  refine tM_bind h fun o ds1 v F H1 Fs1 r1 R1 dj p => ?_
  cases e : o.get ds1 with
  | none => simp only [e] at p; exact p.elim
  | some d =>
    cases d with
    | int b =>
      simp only [e] at p
      obtain ⟨F', r', _⟩ := rO_get r1 R1 e
      exact ⟨b, r'.1, p b [] H1 Fs1 ⟨rfl, rfl⟩ R1 (fun _ z => by cases z) ((Step.refl fun a z => z.elim (rO_mu r1 a) (R1.mu a)).less fun a z => z.elim (fun y => by cases y) .inr)⟩
    | _ => simp only [e] at p; exact p.elim
/-- a chain of two comparisons of ints -/
def mChain (f g : Int → Int → Bool) (ma mb mc : M Opd) : M Opd := mBind (mInt ma) fun i => mBind (mInt mb) fun j => if f i j then mBind (mInt mc) fun k => mC (.bl (g j k)) else mC (.bl false)
def rI0c (p : Int → Int → Bool) : R2 := rI0 fun i j => .bl (p i j)
theorem so_chain {op op' : CmpOp} {f g : Int → Int → Bool} {a b c : Expr} {pos : Pos} {ma mb mc : M Opd} (ho : OpR X (compareOp op) (rI0c f)) (ho' : OpR X (compareOp op') (rI0c g)) (ha : SO T X W a ma) (hb : SO T X W b mb) (hc : SO T X W c mc)
    (hm : lastMarks [op, op'] [b, c] = false) : SO T X W (.Compare a [op, op'] [b, c] pos) (mChain f g ma mb mc) := by
  refine ⟨PE.imp (pe_chain ho ho' ha.run hb.run hc.run hm) fun σ H Q q => ?_⟩
  unfold tChain
  refine tM_imp (tO_of_int (R := fun i H1 => tM T X W rZ (mInt mb) σ H1 fun j H2 => if f i j = true then tM T X W rZ (mInt mc) σ H2 fun k H3 => Q (.bl (g j k)) H3 else Q (.bl false) H2) ?_) fun x H1 ⟨i, ex, q1⟩ => tM_imp (tO_of_int q1) fun y H2 ⟨j, ey, q2⟩ => ⟨i, j, ex, ey, f i j, rfl, ?_⟩
  · refine tM_bind q fun i ds1 i' F H1 Fs1 r R1 dj p => ?_
    have mu := rZ_mu r
    obtain ⟨rfl, _⟩ := r
    refine tM_bind (tM_go (k := mBind (mInt mb) fun j => if f i j then mBind (mInt mc) fun k => mC (.bl (g j k)) else mC (.bl false)) R1 mu p) fun j ds2 j' F2 H2 Fs2 r2 R2 dj2 p2 => ?_
    have mu2 := rZ_mu r2
    obtain ⟨rfl, _⟩ := r2
    by_cases hf : f i j = true
    · rw [if_pos hf]
      rw [if_pos hf] at p2
      refine tM_bind (tM_go (k := mBind (mInt mc) fun k => mC (.bl (g j k))) R2 mu2 p2) fun k ds3 k' F3 H3 Fs3 r3 R3 dj3 p3 => ?_
      have mu3 := rZ_mu r3
      obtain ⟨rfl, _⟩ := r3
      exact tO_ret R3 mu3 p3 ⟨rfl, rfl⟩
    · rw [if_neg hf]
      rw [if_neg hf] at p2
      exact tO_ret R2 mu2 p2 ⟨rfl, rfl⟩
  · by_cases hf : f i j = true
    · rw [if_pos hf] at q2
      rw [if_pos hf]
      exact tM_imp (tO_of_int q2) fun z H3 ⟨k, ez, q3⟩ => ⟨j, k, ey, ez, q3⟩
    · rw [if_neg hf] at q2
      rw [if_neg hf]
      exact q2
/-! ### statements -/
abbrev Sm := Sd → Rs Sd Fl
/-- the slots at kp keep their values -/
def Kp (kp : List Nat) (σ σ' : Sg) : Prop := σ'.length = σ.length ∧ ∀ i ∈ kp, σ'[i]? = σ[i]?
def PostS (T : List (Addr × Str)) (X : Cx) (W : WX) (kp : List Nat) (Dn : Ends) (H : Hp) (P : Addr → Prop) (σ : Sg) (r : Rs Sd Fl) : Prop := match r with
  | .ok (.ret d) ds' => ∀ (v : V) (F : List Addr) (σ' : Sg) (H' : Hp) (Fs' : Nat → List Addr), rep X.K H' d v F → Kp kp σ σ' → SRel (gx T X) H' σ' ds' Fs' → (∀ x ∈ F, ¬ InF Fs' x) → Step T H P H' (fun x => x ∈ F ∨ InF Fs' x) → Dn.rt v H'
  | .ok .next ds' => ∀ (σ' : Sg) (H' : Hp) (Fs' : Nat → List Addr), Kp kp σ σ' → SRel (gx T X) H' σ' ds' Fs' → Step T H P H' (InF Fs') → Dn.nx σ' H'
  | .ok .brk ds' => ∀ (σ' : Sg) (H' : Hp) (Fs' : Nat → List Addr), Kp kp σ σ' → SRel (gx T X) H' σ' ds' Fs' → Step T H P H' (InF Fs') → Dn.bk σ' H'
  | .ok .cont ds' => ∀ (σ' : Sg) (H' : Hp) (Fs' : Nat → List Addr), Kp kp σ σ' → SRel (gx T X) H' σ' ds' Fs' → Step T H P H' (InF Fs') → Dn.ct σ' H'
  | .exc c w ds' => ∀ (C x : Addr) (v : V) (σ' : Sg) (H' : Hp) (Fs' : Nat → List Addr), X.mg c = some (.ref C) → H' x = some (.xd [("what", v)]) → rep X.K H' w v [] → Kp kp σ σ' → SRel (gx T X) H' σ' ds' Fs' → Step T H P H' (InF Fs') → W (.ref C) (some x) σ' H'
  | .stuck => False
def tS (T : List (Addr × Str)) (X : Cx) (W : WX) (kp : List Nat) (m : Sm) : TS := fun Dn σ H =>
  ∃ (ds : Sd) (Fs : Nat → List Addr), SRel (gx T X) H σ ds Fs ∧ PostS T X W kp Dn H (InF Fs) σ (m ds)
structure SS (T : List (Addr × Str)) (X : Cx) (W : WX) (kp : List Nat) (st : Stmt) (m : Sm) : Prop where
  run : PS X st (tS T X W kp m)
structure SSs (T : List (Addr × Str)) (X : Cx) (W : WX) (kp : List Nat) (sts : List Stmt) (m : Sm) : Prop where
  run : PSs X sts (tS T X W kp m)
theorem Kp.refl {kp : List Nat} {σ : Sg} : Kp kp σ σ := ⟨rfl, fun _ _ => rfl⟩
theorem Kp.trans {kp : List Nat} {σ σ1 σ2 : Sg} (a : Kp kp σ σ1) (b : Kp kp σ1 σ2) : Kp kp σ σ2 := ⟨b.1.trans a.1, fun i h => (b.2 i h).trans (a.2 i h)⟩
theorem PostS.step {kp : List Nat} {Dn : Ends} {σ1 : Sg} {r : Rs Sd Fl} (k : Kp kp σ σ1) (st : Step T H P H1 P1) (p : PostS T X W kp Dn H P σ r) : PostS T X W kp Dn H1 P1 σ1 r := by
  cases r with
  | ok f ds' =>
    cases f with
    | next => exact fun σ' H' Fs' h1 h2 h3 => p σ' H' Fs' (k.trans h1) h2 (st.trans h3)
    | brk => exact fun σ' H' Fs' h1 h2 h3 => p σ' H' Fs' (k.trans h1) h2 (st.trans h3)
    | cont => exact fun σ' H' Fs' h1 h2 h3 => p σ' H' Fs' (k.trans h1) h2 (st.trans h3)
    | ret d => exact fun v F σ' H' Fs' h1 h2 h3 h4 h5 => p v F σ' H' Fs' h1 (k.trans h2) h3 h4 (st.trans h5)
  | exc c w ds' => exact fun C x v σ' H' Fs' h1 h2 h3 h4 h5 h6 => p C x v σ' H' Fs' h1 h2 h3 (k.trans h4) h5 (st.trans h6)
  | stuck => exact p
theorem PostS.less {kp : List Nat} {Dn : Ends} {r : Rs Sd Fl} (h : ∀ a, P1 a → P a) (mu : ∀ a, P a → ∃ o, H a = some o ∧ Mu o) (p : PostS T X W kp Dn H P σ r) : PostS T X W kp Dn H P1 σ r := by
  cases r with
  | ok f ds' =>
    cases f with
    | next => exact fun σ' H' Fs' h1 h2 h3 => p σ' H' Fs' h1 h2 (h3.weak h mu)
    | brk => exact fun σ' H' Fs' h1 h2 h3 => p σ' H' Fs' h1 h2 (h3.weak h mu)
    | cont => exact fun σ' H' Fs' h1 h2 h3 => p σ' H' Fs' h1 h2 (h3.weak h mu)
    | ret d => exact fun v F σ' H' Fs' h1 h2 h3 h4 h5 => p v F σ' H' Fs' h1 h2 h3 h4 (h5.weak h mu)
  | exc c w ds' => exact fun C x v σ' H' Fs' h1 h2 h3 h4 h5 h6 => p C x v σ' H' Fs' h1 h2 h3 h4 h5 (h6.weak h mu)
  | stuck => exact p
/-- an expression ahead of what a statement does -/
def sBind {α : Type} (m : M α) (k : α → Sm) : Sm := fun s => match m s with
  | .ok a s' => k a s'
  | .exc c w s' => .exc c w s'
  | .stuck => .stuck
theorem tS_bind {α β : Type} {kp : List Nat} {Dn : Ends} {rel : Rl α β} {m : M α} {k : α → Sm} {R : β → Hp → Prop} (h : tS T X W kp (sBind m k) Dn σ H)
    (hk : ∀ a ds1 b F H1 Fs1, rel σ H1 a b F → SRel (gx T X) H1 σ ds1 Fs1 → (∀ x ∈ F, ¬ InF Fs1 x) → PostS T X W kp Dn H1 (fun x => x ∈ F ∨ InF Fs1 x) σ (k a ds1) → R b H1) : tM T X W rel m σ H R := by
  obtain ⟨ds, Fs, R0, p⟩ := h
  refine ⟨ds, Fs, R0, ?_⟩
  unfold sBind at p
  cases e : m ds with
  | ok a ds1 =>
    rw [e] at p
    exact fun b F H1 Fs1 r1 R1 dj st => hk a ds1 b F H1 Fs1 r1 R1 dj (PostS.step .refl st p)
  | exc c w ds' =>
    rw [e] at p
    exact fun C x v H' Fs' h1 h2 h3 h4 h5 => p C x v σ H' Fs' h1 h2 h3 .refl h4 h5
  | stuck =>
    rw [e] at p
    exact p.elim
theorem tS_go {kp : List Nat} {Dn : Ends} {k : Sm} {F : List Addr} {ds1 : Sd} {Fs1 : Nat → List Addr} (R1 : SRel (gx T X) H1 σ ds1 Fs1) (mu : ∀ a ∈ F, ∃ o, H1 a = some o ∧ Mu o)
    (p : PostS T X W kp Dn H1 (fun x => x ∈ F ∨ InF Fs1 x) σ (k ds1)) : tS T X W kp k Dn σ H1 :=
  ⟨ds1, Fs1, R1, PostS.less (fun a h => .inr h) (fun a h => h.elim (mu a) (R1.mu a)) p⟩
def sNext : Sm := fun s => .ok .next s
def sBrk : Sm := fun s => .ok .brk s
def sCont : Sm := fun s => .ok .cont s
def sSeq (a b : Sm) : Sm := fun s => match a s with
  | .ok .next s' => b s'
  | r => r
theorem post_next {kp : List Nat} {Dn : Ends} {F : List Addr} {ds1 : Sd} {Fs1 : Nat → List Addr} (R1 : SRel (gx T X) H1 σ ds1 Fs1) (mu : ∀ a ∈ F, ∃ o, H1 a = some o ∧ Mu o)
    (p : PostS T X W kp Dn H1 (fun x => x ∈ F ∨ InF Fs1 x) σ (.ok .next ds1)) : Dn.nx σ H1 :=
  p σ H1 Fs1 .refl R1 ((Step.refl fun a z => z.elim (mu a) (R1.mu a)).less fun a z => .inr z)
theorem tS_same {kp : List Nat} {Dn : Ends} {ds : Sd} {Fs : Nat → List Addr} (R : SRel (gx T X) H σ ds Fs) : Step T H (InF Fs) H (InF Fs) := Step.refl R.mu
section
variable {kp : List Nat}
theorem ss_pass {pos : Pos} : SS T X W kp (.Pass pos) sNext := ⟨PS.imp ps_pass fun D σ H ⟨ds, Fs, R, p⟩ => p σ H Fs .refl R (Step.refl R.mu)⟩
theorem ss_break {pos : Pos} : SS T X W kp (.Break pos) sBrk := ⟨PS.imp ps_break fun D σ H ⟨ds, Fs, R, p⟩ => p σ H Fs .refl R (Step.refl R.mu)⟩
theorem ss_cont {pos : Pos} : SS T X W kp (.Continue pos) sCont := ⟨PS.imp ps_continue fun D σ H ⟨ds, Fs, R, p⟩ => p σ H Fs .refl R (Step.refl R.mu)⟩
theorem sss_nil : SSs T X W kp [] sNext := ⟨PSs.imp pss_nil fun D σ H ⟨ds, Fs, R, p⟩ => p σ H Fs .refl R (Step.refl R.mu)⟩
/-- the block behind -/
theorem tS_seq {a b : Sm} {Dn : Ends} (h : tS T X W kp (sSeq a b) Dn σ H) : tS T X W kp a { Dn with nx := tS T X W kp b Dn } σ H := by
  obtain ⟨ds, Fs, R, p⟩ := h
  refine ⟨ds, Fs, R, ?_⟩
  unfold sSeq at p
  cases e : a ds with
  | ok f s =>
    rw [e] at p
    cases f with
    | next => exact fun σ' H' Fs' h1 h2 h3 => ⟨s, Fs', h2, PostS.step h1 h3 p⟩
    | brk => exact p
    | cont => exact p
    | ret d => exact p
  | exc c w s => rw [e] at p; exact p
  | stuck => rw [e] at p; exact p
theorem sss_cons {st : Stmt} {sts : List Stmt} {a b : Sm} (h : SS T X W kp st a) (hs : SSs T X W kp sts b) : SSs T X W kp (st :: sts) (sSeq a b) := ⟨PSs.imp (pss_cons h.run hs.run) fun D σ H q => tS_seq q⟩
theorem sss_one {st : Stmt} {a : Sm} (h : SS T X W kp st a) : SSs T X W kp [st] a := ⟨pss_one h.run⟩
def sDrop (m : M Opd) : Sm := sBind m fun _ => sNext
theorem ss_expr {e : Expr} {m : M Opd} {pos : Pos} (h : SO T X W e m) (hs : swapsWith e none pos.line X.env = pure false := by rfl) : SS T X W kp (.Expr e pos) (sDrop m) :=
  ⟨PS.imp (ps_expr h.run hs) fun D σ H q => tS_bind q fun o ds1 v F H1 Fs1 r R1 dj p => post_next R1 (rO_mu r) p⟩
def sRet (m : M Opd) : Sm := sBind m fun o => sBind (toOwn o) fun d s => .ok (.ret d) s
theorem toOwn_post {o : Opd} {v : V} {F : List Addr} {ds : Sd} {Fs : Nat → List Addr} {Dn : Ends} {k : D → Sm} {R : Prop} (r : rO X σ H o v F) (R1 : SRel (gx T X) H σ ds Fs) (dj : ∀ x ∈ F, ¬ InF Fs x)
    (p : PostS T X W kp Dn H (fun x => x ∈ F ∨ InF Fs x) σ (sBind (toOwn o) k ds)) (hk : ∀ d ds1 F1 Fs1, rep X.K H d v F1 → SRel (gx T X) H σ ds1 Fs1 → (∀ x ∈ F1, ¬ InF Fs1 x) → PostS T X W kp Dn H (fun x => x ∈ F1 ∨ InF Fs1 x) σ (k d ds1) → R) : R := by
  unfold sBind at p
  cases e : toOwn o ds with
  | exc c w s => exact (toOwn_noexc e).elim
  | stuck => rw [e] at p; exact p.elim
  | ok d s =>
    rw [e] at p
    obtain ⟨F', Fs', q1, R', j', s', t'⟩ := toOwn_ok r R1 dj e
    exact hk d s F' Fs' q1 R' j' (PostS.less (fun a h => h.elim (s' a) fun z => .inr (t' a z)) (fun a h => h.elim (rO_mu r a) (R1.mu a)) p)
theorem ss_ret {e : Expr} {m : M Opd} {pos : Pos} (h : SO T X W e m) : SS T X W kp (.Return (some e) pos) (sRet m) :=
  ⟨PS.imp (ps_ret h.run) fun D σ H q => tS_bind q fun o ds1 v F H1 Fs1 r R1 dj p => toOwn_post r R1 dj p fun d ds2 F2 Fs2 r2 R2 dj2 p2 =>
    p2 v F2 σ H1 Fs2 r2 .refl R2 dj2 (Step.refl fun a z => z.elim (rep_mu d v F2 r2 a) (R2.mu a))⟩
def sRetN : Sm := fun s => .ok (.ret .non) s
theorem ss_retN {pos : Pos} : SS T X W kp (.Return none pos) sRetN :=
  ⟨PS.imp ps_retN fun D σ H ⟨ds, Fs, R, p⟩ => p .non [] σ H Fs ⟨rfl, rfl⟩ .refl R (fun _ z => by cases z) ((Step.refl R.mu).less fun a z => z.elim (fun y => by cases y) id)⟩
def sIf (t : M Bool) (a b : Sm) : Sm := sBind t fun c => if c then a else b
theorem ss_if {c : Expr} {as bs : List Stmt} {pos : Pos} {t : M Bool} {a b : Sm} (hc : ST T X W c t) (ha : SSs T X W kp as a) (hb : SSs T X W kp bs b) : SS T X W kp (.If c as bs pos) (sIf t a b) :=
  ⟨PS.imp (ps_if hc.run ha.run hb.run) fun D σ H q => tS_bind q fun c ds1 c' F H1 Fs1 r R1 dj p => by
    have mu := rB_mu r
    obtain ⟨rfl, _⟩ := r
    cases c with
    | true => exact tS_go R1 mu p
    | false => exact tS_go R1 mu p⟩
/-- a name's store -/
theorem SRel.put {G : Gx} {ds : Sd} {Fs : Nat → List Addr} {i : Nat} {d : D} {v : V} {F : List Addr} (R : SRel G H σ ds Fs) (r : rep G.K H d v F) (dj : ∀ x ∈ F, ¬ InF Fs x) (hi : i < ds.length) :
    SRel G H (σ.set i (some v)) (ds.set i (some d)) (fun j => if j = i then F else Fs j) := by
  have hl := R.len
  refine ⟨by rw [List.length_set, List.length_set]; exact R.len, fun j e he => ?_, fun j h => ?_, fun j k a hjk h1 h2 => ?_, R.tab⟩
  · by_cases hj : j = i
    · subst hj
      rw [List.getElem?_set_self hi] at he
      cases he
      exact ⟨v, List.getElem?_set_self (by omega), by simpa using r⟩
    · rw [List.getElem?_set_ne (Ne.symm hj)] at he
      simp only [if_neg hj]
      obtain ⟨u, e1, r1⟩ := R.at_ j e he
      exact ⟨u, by rw [List.getElem?_set_ne (Ne.symm hj)]; exact e1, r1⟩
  · by_cases hj : j = i
    · subst hj
      exact absurd (List.getElem?_set_self hi) (h d)
    · simp only [if_neg hj]
      exact R.no j fun e he => h e (by rw [List.getElem?_set_ne (Ne.symm hj)]; exact he)
  · by_cases hj : j = i
    · simp only [if_pos hj] at h1
      have hk : k ≠ i := fun z => hjk (hj.trans z.symm)
      simp only [if_neg hk] at h2
      exact dj a h1 ⟨k, h2⟩
    · simp only [if_neg hj] at h1
      by_cases hk : k = i
      · simp only [if_pos hk] at h2
        exact dj a h2 ⟨j, h1⟩
      · simp only [if_neg hk] at h2
        exact R.dj j k a hjk h1 h2
theorem Kp.set {i : Nat} {v : Option V} (h : i ∉ kp) : Kp kp σ (σ.set i v) := ⟨List.length_set, fun j hj => by
  rw [List.getElem?_set_ne (fun z => h (by rw [z]; exact hj))]⟩
def sSet (i : Nat) (m : M Opd) : Sm := sBind m fun o => sBind (toOwn o) fun d s => if i < s.length then .ok .next (s.set i (some d)) else .stuck
theorem put_sub {Fs : Nat → List Addr} {F : List Addr} {i : Nat} : ∀ a, InF (fun j => if j = i then F else Fs j) a → a ∈ F ∨ InF Fs a := fun a ⟨j, hj⟩ => by
  by_cases h : j = i
  · simp only [if_pos h] at hj; exact .inl hj
  · simp only [if_neg h] at hj; exact .inr ⟨j, hj⟩
theorem ss_set (i : Nat) {x : Str} {e : Expr} {m : M Opd} {pos pos' : Pos} (hN : X.N.Nodup) (h : SO T X W e m) (hk : i ∉ kp := by decide) (hi : X.N[i]? = some x := by rfl) (hx : Loc X.env.scope x := by first | exact Or.inl rfl | exact Or.inr rfl) (hs : swapsWith e (some (.Name x pos')) pos.line X.env = pure false := by rfl)
    (hf : X.fn x = true ∨ X.env.scope.names.lookup x = some .local := by first | exact .inl rfl | exact .inr rfl) : SS T X W kp (.Assign [.Name x pos'] e pos) (sSet i m) :=
  ⟨PS.imp (ps_set hN hi hx h.run hs hf) fun D σ H q => tS_bind q fun o ds1 v F H1 Fs1 r R1 dj p => toOwn_post r R1 dj p fun d ds2 F2 Fs2 r2 R2 dj2 p2 => by
    by_cases hl : i < ds2.length
    · rw [if_pos hl] at p2
      exact p2 _ H1 _ (Kp.set hk) (R2.put r2 dj2 hl) ((Step.refl fun a z => z.elim (rep_mu d v F2 r2 a) (R2.mu a)).less fun a z => put_sub a z)
    · rw [if_neg hl] at p2; exact p2.elim⟩
end
end
end TQ
set_option maxHeartbeats 4000000
namespace TQ
open PySem PySem.Spec PyProof.Rows L2
/-! ### pieces -/
/-- the items of a list of data, each with its own things -/
structure Pcs (K : PySem.W.Frag) (H : Hp) (dl : List D) (vs : List V) (Gs : Nat → List Addr) : Prop where
  len : vs.length = dl.length
  at_ : ∀ i d, dl[i]? = some d → ∃ v, vs[i]? = some v ∧ rep K H d v (Gs i)
  no : ∀ i, dl.length ≤ i → Gs i = []
  dj : ∀ i j a, i ≠ j → a ∈ Gs i → a ∉ Gs j
theorem reps_pcs {K : PySem.W.Frag} {H : Hp} : ∀ {dl : List D} {vs : List V} {F : List Addr}, reps K H dl vs F → ∃ Gs, Pcs K H dl vs Gs ∧ ∀ a, a ∈ F ↔ ∃ i, a ∈ Gs i
  | [], _, _, h => by
    obtain ⟨rfl, rfl⟩ := h
    exact ⟨fun _ => [], ⟨rfl, fun i d e => by simp at e, fun _ _ => rfl, fun _ _ _ _ h => by cases h⟩, fun a => ⟨fun h => (by cases h), fun ⟨_, h⟩ => (by cases h)⟩⟩
  | d :: dl, _, _, h => by
    obtain ⟨v, us, F1, F2, rfl, rfl, dj, r1, r2⟩ := h
    obtain ⟨Gs, P, m⟩ := reps_pcs r2
    refine ⟨fun i => match i with | 0 => F1 | i + 1 => Gs i, ⟨by simp [P.len], fun i e he => ?_, fun i hi => ?_, fun i j a hij h1 h2 => ?_⟩, fun a => ?_⟩
    · cases i with
      | zero => simp at he; subst he; exact ⟨v, rfl, r1⟩
      | succ i =>
        obtain ⟨w, e1, r⟩ := P.at_ i e (by simpa using he)
        exact ⟨w, by simpa using e1, r⟩
    · cases i with
      | zero => simp at hi
      | succ i => exact P.no i (by simpa using hi)
    · cases i with
      | zero =>
        cases j with
        | zero => exact hij rfl
        | succ j => exact dj a h1 ((m a).mpr ⟨j, h2⟩)
      | succ i =>
        cases j with
        | zero => exact dj a h2 ((m a).mpr ⟨i, h1⟩)
        | succ j => exact P.dj i j a (fun z => hij (by rw [z])) h1 h2
    · rw [List.mem_append]
      refine ⟨fun h => h.elim (fun z => ⟨0, z⟩) fun z => ?_, fun ⟨i, h⟩ => ?_⟩
      · obtain ⟨i, hi⟩ := (m a).mp z
        exact ⟨i + 1, hi⟩
      · cases i with
        | zero => exact .inl h
        | succ i => exact .inr ((m a).mpr ⟨i, h⟩)
theorem pcs_reps {K : PySem.W.Frag} {H : Hp} : ∀ {dl : List D} {vs : List V} {Gs : Nat → List Addr}, Pcs K H dl vs Gs → ∃ F, reps K H dl vs F ∧ ∀ a, a ∈ F → ∃ i, a ∈ Gs i
  | [], vs, Gs, P => ⟨[], ⟨List.length_eq_zero_iff.mp P.len, rfl⟩, fun a h => by cases h⟩
  | d :: dl, [], Gs, P => by have := P.len; simp at this
  | d :: dl, v :: vs, Gs, P => by
    obtain ⟨F, r, m⟩ := pcs_reps (dl := dl) (vs := vs) (Gs := fun i => Gs (i + 1)) ⟨by simpa using P.len, fun i e he => P.at_ (i + 1) e (by simpa using he), fun i hi => P.no (i + 1) (by simpa using hi), fun i j a hij => P.dj (i + 1) (j + 1) a (by omega)⟩
    obtain ⟨v', e, r0⟩ := P.at_ 0 d rfl
    cases e
    refine ⟨Gs 0 ++ F, ⟨v, vs, Gs 0, F, rfl, rfl, fun a h1 h2 => ?_, r0, r⟩, fun a h => ?_⟩
    · obtain ⟨i, hi⟩ := m a h2
      exact P.dj 0 (i + 1) a (by omega) h1 hi
    · rcases List.mem_append.mp h with h | h
      · exact ⟨0, h⟩
      · obtain ⟨i, hi⟩ := m a h
        exact ⟨i + 1, hi⟩
/-! ### what a def promises -/
def spF (T : List (Addr × Str)) (K : PySem.W.Frag) (mg : Str → Option Value) (np : Nat) (g : FM) : Sp := fun vs H Q E => vs.length = np ∧ ∃ (dl : List D) (F : List Addr), reps K H dl vs F ∧ LamX.Tabs T H ∧ match g dl with
  | .ok d dl' => ∀ (v : V) (G : List Addr) (H' : Hp) (F' : List Addr), rep K H' d v G → reps K H' dl' vs F' → (∀ a ∈ G, a ∉ F') → Step T H (fun a => a ∈ F) H' (fun a => a ∈ G ∨ a ∈ F') → Q v H'
  | .exc c w dl' => ∀ (C x : Addr) (v : V) (H' : Hp) (F' : List Addr), mg c = some (.ref C) → H' x = some (.xd [("what", v)]) → rep K H' w v [] → reps K H' dl' vs F' → Step T H (fun a => a ∈ F) H' (fun a => a ∈ F') → E (.ref C) (some x) H'
  | .stuck => False
/-- a promise that answers more often -/
def FLe (g h : FM) : Prop := ∀ dl, g dl ≠ .stuck → h dl = g dl
theorem spF_le {T : List (Addr × Str)} {K : PySem.W.Frag} {mg : Str → Option Value} {np : Nat} {g h : FM} (le : FLe g h) : ∀ vs H Q E, spF T K mg np g vs H Q E → spF T K mg np h vs H Q E := fun vs H Q E ⟨hl, dl, F, r, t, p⟩ => by
  refine ⟨hl, dl, F, r, t, ?_⟩
  cases e : g dl with
  | stuck => rw [e] at p; exact p.elim
  | ok d dl' => rw [le dl (by rw [e]; intro z; cases z), e]; rw [e] at p; exact p
  | exc c w dl' => rw [le dl (by rw [e]; intro z; cases z), e]; rw [e] at p; exact p
/-! ### a def's body as its promise -/
def backs (kp : List Nat) (s : Sd) : Nat → List D → Option (List D)
  | _, [] => some []
  | i, d :: dl => match (if i ∈ kp then (s[i]?).join else if d.pure then some d else none), backs kp s (i + 1) dl with
    | some d', some l => some (d' :: l)
    | _, _ => none
def fnM (n np : Nat) (kp : List Nat) (body : Sm) : FM := fun dl => if dl.length = np then
    match body (dl.map some ++ List.replicate (n - np) none) with
    | .ok (.ret d) s => (match backs kp s 0 dl with | some l => .ok d l | none => .stuck)
    | .ok .next s => (match backs kp s 0 dl with | some l => .ok .non l | none => .stuck)
    | .exc c w s => (match backs kp s 0 dl with | some l => .exc c w l | none => .stuck)
    | _ => .stuck
  else .stuck
theorem backs_len {kp : List Nat} {s : Sd} : ∀ {i : Nat} {dl l : List D}, backs kp s i dl = some l → l.length = dl.length
  | i, [], l, h => by cases h; rfl
  | i, d :: dl, l, h => by
    unfold backs at h
    split at h
    · rename_i d' l' e1 e2
      cases h
      simp [backs_len e2]
    · cases h
theorem backs_get {kp : List Nat} {s : Sd} : ∀ {i j : Nat} {dl l : List D} {d' : D}, backs kp s i dl = some l → l[j]? = some d' → (i + j ∈ kp ∧ s[i + j]? = some (some d')) ∨ (i + j ∉ kp ∧ dl[j]? = some d' ∧ d'.pure = true)
  | i, j, [], l, d', h, e => by cases h; simp at e
  | i, j, d :: dl, l, d', h, e => by
    unfold backs at h
    split at h
    · rename_i d1 l' e1 e2
      cases h
      cases j with
      | zero =>
        simp at e; subst e
        split at e1
        · rename_i hk
          exact .inl ⟨hk, join_some e1⟩
        · rename_i hk
          split at e1
          · rename_i hp
            cases e1
            exact .inr ⟨hk, rfl, hp⟩
          · cases e1
      | succ j =>
        have := backs_get (i := i + 1) (j := j) e2 (by simpa using e)
        rw [show i + (j + 1) = i + 1 + j by omega]
        simpa using this
    · cases h
section
variable {T : List (Addr × Str)} {P : Program} {w : World} {K : PySem.W.Frag} {mg : Str → Option Value} {base : Heap}
theorem backs_reps {X : Cx} {σ σ' : Sg} {H H' : Hp} {kp : List Nat} {s : Sd} {dl l : List D} {vs : List V} {F : List Addr} {Fs' : Nat → List Addr} {P' : Addr → Prop} (hv : ∀ i : Nat, i < vs.length → σ[i]? = some (vs[i]?)) (r : reps X.K H dl vs F)
    (R : SRel (gx T X) H' σ' s Fs') (k : Kp kp σ σ') (st : Step T H (fun a => a ∈ F) H' P') (h : backs kp s 0 dl = some l) : ∃ F', reps X.K H' l vs F' ∧ ∀ a ∈ F', InF Fs' a := by
  have hl := backs_len h
  have hlv := reps_length r
  have P0 : Pcs X.K H' l vs fun i => if i ∈ kp ∧ i < dl.length then Fs' i else [] := by
    refine ⟨by omega, fun i d' e => ?_, fun i hi => if_neg fun z => absurd z.2 (by omega), fun i j a hij h1 h2 => ?_⟩
    · have hi : i < l.length := (List.getElem?_eq_some_iff.mp e).1
      rcases backs_get (j := i) h e with ⟨hk, hs⟩ | ⟨hk, hd, hp⟩
      · rw [Nat.zero_add] at hk hs
        obtain ⟨v, e1, r1⟩ := R.at_ i d' hs
        rw [k.2 i hk, hv i (by omega)] at e1
        rw [if_pos ⟨hk, by omega⟩]
        exact ⟨v, Option.some.inj e1, r1⟩
      · obtain ⟨v, F1, e1, r1, _⟩ := reps_get r hd
        have r2 := rep_pure0 hp r1
        have r3 := rep_step st d' v [] r2 (fun _ z => by cases z)
        rw [Nat.zero_add] at hk
        exact ⟨v, e1, by rw [if_neg fun z => hk z.1]; exact r3⟩
    · by_cases hi : i ∈ kp ∧ i < dl.length
      · rw [if_pos hi] at h1
        by_cases hj : j ∈ kp ∧ j < dl.length
        · rw [if_pos hj] at h2
          exact R.dj i j a hij h1 h2
        · rw [if_neg hj] at h2; cases h2
      · rw [if_neg hi] at h1; cases h1
  obtain ⟨F', r', m⟩ := pcs_reps P0
  refine ⟨F', r', fun a ha => ?_⟩
  obtain ⟨i, hi⟩ := m a ha
  by_cases hk : i ∈ kp ∧ i < dl.length
  · rw [if_pos hk] at hi; exact ⟨i, hi⟩
  · rw [if_neg hk] at hi; cases hi
/-- a def that keeps a promise wherever nothing is being shown -/
structure FnG (T : List (Addr × Str)) (P : Program) (w : World) (K : PySem.W.Frag) (mg : Str → Option Value) (base : Heap) (k : Nat) (f : Addr) (fd : FuncData) (ps : List Str) (np : Nat) (gd : Bool) (g : FM) : Prop where
  pl : ps.length = np
  run : ∀ (A : Around) (outer : List Env) (s : Shared) (H : Hp) (args : Args) (us : List Value) (vs : List V) (Q : VK) (E : XK), Room k A → (gd = true → A.guards = some []) → Env0 P w K mg base A outer s H → BindsTo s fd args (ps.zip us) → Vals vs us → spF T K mg np g vs H Q E →
    codeAny (model P w) A (.call (.ref f) args) (CR (L2.CX P w) outer P w H s Q E) s
theorem FnG.mono {j k : Nat} {f : Addr} {fd : FuncData} {ps : List Str} {np : Nat} {gd : Bool} {g : FM} (F : FnG T P w K mg base j f fd ps np gd g) (h : j ≤ k) : FnG T P w K mg base k f fd ps np gd g :=
  ⟨F.pl, fun A outer s H args us vs Q E hr => F.run A outer s H args us vs Q E (hr.mono h)⟩
/-- the def st stands at f, its code object is cdv -/
structure Fn (K : PySem.W.Frag) (x qual : Str) (st : Stmt) (f : Addr) (fd : FuncData) (cdv : Value) : Prop where
  ex : ∃ (oc : Value) (od : Option Addr) (kV doc pm : Value) (an : Option Addr) (ct : Value) (osl : Array (Option Value)),
    fd = PySem.W.fnOf x qual (defArgs st) (defBody st) (defScope st) .none kV doc pm an cdv ct ∧ K.lookup f = some ⟨oc, od, .func fd, osl⟩ ∧ PySem.W.codeIn K cdv qual = true
  kp : PySem.W.keepIn K (.ref f) = true
/-- the def is entered: its body's reading, then the end -/
theorem enter {x qual : Str} {st : Stmt} {f : Addr} {fd : FuncData} {N ps : List Str} {k : Nat} {cdv : Value} (F : Fn K x qual st f fd cdv) (S : FnScope N ps (defScope st)) {A : Around} {outer : List Env} {s : Shared} {H : Hp} {args : Args} {us : List Value} {vs : List V} {Q : VK} {E : XK}
    (hr : Room (k + 1) A) (e0 : Env0 P w K mg base A outer s H) (hb : BindsTo s fd args (ps.zip us)) (rv : Vals vs us) (hl : vs.length = ps.length)
    (body : Room k (A.deeper (envOfC qual (defScope st) s.heap.objs.size f cdv)) → ∃ t, PSs (cxOf (L2.CX P w) P w K mg base N qual (defScope st) f cdv A outer s H E) (defBody st) t ∧ t { nx := fun _ H' => Q .non H', rt := Q } (L2.start N vs) H) :
    codeAny (model P w) A (.call (.ref f) args) (CR (L2.CX P w) outer P w H s Q E) s := by
  obtain ⟨oc, od, kV, doc, pm, an, ct, osl, rfl, lk, hcd⟩ := F.ex
  have kin : K.In s.heap := e0.mod.kin.keeps fun b o z => (e0.bs b o z).1
  have nolim : s.heap.NoLimit := e0.mod.nolimit.keeps fun b o z => (e0.bs b o z).1
  have loc : ∀ y ∈ ps.zip us, (defScope st).names.lookup y.1 = some .local ∨ ((defScope st).names.lookup y.1 = some .cell ∧ ((cellsFrom (s.heap.objs.size + 1) (defScope st).names []).lookup y.1).isSome = true) := by
    intro y hy
    have hp : y.1 ∈ ps := (List.of_mem_zip (a := y.1) (b := y.2) hy).1
    exact (S.par y.1 hp).imp id fun q => ⟨q, PySem.W.cellsFrom_some _ _ _ (.inl q)⟩
  refine codeAny_call_function hr.depth (kin _ _ lk) rfl S.co S.gen rfl (PySem.W.codeRec_of kin hcd) (hb _ _ _ _ (wpAny_newFunctionEnv_cells S.kind loc fun env he s1 ic => ?_))
  subst he
  obtain ⟨t, ht, hq⟩ := body (hr.deeper _)
  have I0 := inv_start (CX := L2.CX P w) (N := N) (E := E) S hr.hd e0 hl rv ic
  refine ⟨nolim.keeps ic.toInCall.keep, codeAny_func (wpAny_mono (ht.run [] s1 _ H _ I0 hq) (fun fl s' hs => ?_) fun _ _ he => he)⟩
  match fl, hs with
  | .ret u, hs =>
    obtain ⟨v, _, H', J, rr, q⟩ := hs
    exact ⟨v, H', J.os, J.bare, J.base, J.hok, rr, q⟩
  | .next, hs =>
    obtain ⟨_, H', J, q⟩ := hs
    exact ⟨.non, H', J.os, J.bare, J.base, J.hok, rfl, q⟩
  | .brk, hs => exact hs.elim fun _ h => h.elim fun _ h => h.2.elim
  | .cont, hs => exact hs.elim fun _ h => h.elim fun _ h => h.2.elim
/-- THE RULE for a def that may raise -/
theorem fn_ok {x qual : Str} {st : Stmt} {f : Addr} {fd : FuncData} {N ps : List Str} {k : Nat} {kp : List Nat} {gd : Bool} {g : FM} {m : Sm} {cdv : Value} (F : Fn K x qual st f fd cdv) (S : FnScope N ps (defScope st)) (hkp : ∀ i ∈ kp, i < ps.length)
    (hb : ∀ (A : Around) (outer : List Env) (s : Shared) (H : Hp) (E : XK), Room k (A.deeper (envOfC qual (defScope st) s.heap.objs.size f cdv)) → (gd = true → A.guards = some []) →
      SSs T (cxOf (L2.CX P w) P w K mg base N qual (defScope st) f cdv A outer s H E) (fun cls d _ H => E cls d H) kp (defBody st) m)
    (le : FLe g (fnM N.length ps.length kp m)) : FnG T P w K mg base (k + 1) f fd ps ps.length gd g := by
  refine ⟨rfl, fun A outer s H args us vs Q E hr hgd e0 hbd rv hsp => ?_⟩
  have h := spF_le le _ _ _ _ hsp
  have hpl : ps.length ≤ N.length := by have := congrArg List.length S.pre; rw [List.length_take] at this; omega
  refine enter F S hr e0 hbd rv h.1 fun hr => ?_
  obtain ⟨hl, dl, Fo, r, tb, p⟩ := h
  have hlv := reps_length r
  refine ⟨_, (hb A outer s H E hr hgd).run, dl.map some ++ List.replicate (N.length - ps.length) none, ?_⟩
  obtain ⟨Gs, Pc, mem⟩ := reps_pcs r
  refine ⟨Gs, ⟨?_, fun i d e => ?_, fun i hi => ?_, Pc.dj, tb⟩, ?_⟩
  · unfold L2.start; simp; omega
  · by_cases hi : i < dl.length
    · rw [List.getElem?_append_left (by simpa using hi), List.getElem?_map] at e
      cases e2 : dl[i]? with
      | none => rw [e2] at e; cases e
      | some d' =>
        rw [e2] at e; cases e
        obtain ⟨v, e3, r3⟩ := Pc.at_ i d e2
        refine ⟨v, ?_, r3⟩
        unfold L2.start
        rw [List.getElem?_append_left (by simpa using (by omega : i < vs.length)), List.getElem?_map, e3]; rfl
    · rw [List.getElem?_append_right (by simpa using hi), List.getElem?_replicate] at e
      split at e <;> cases e
  · by_cases hd : i < dl.length
    · refine absurd ?_ (hi dl[i])
      rw [List.getElem?_append_left (by simpa using hd), List.getElem?_map, List.getElem?_eq_getElem hd]; rfl
    · exact Pc.no i (by omega)
  · unfold fnM at p
    rw [if_pos (by omega)] at p
    have hv : ∀ i : Nat, i < vs.length → (L2.start N vs)[i]? = some (vs[i]?) := fun i hi => by
      unfold L2.start
      rw [List.getElem?_append_left (by simpa using hi), List.getElem?_map, List.getElem?_eq_getElem hi]; rfl
    have sub : ∀ {H' : Hp} {P' : Addr → Prop}, Step T H (InF Gs) H' P' → Step T H (fun a => a ∈ Fo) H' P' := fun st => st.weak (fun a z => (mem a).mpr z) (reps_mu dl vs Fo r)
    cases e : m (dl.map some ++ List.replicate (N.length - ps.length) none) with
    | stuck => simp only [e] at p
    | exc c wh sd =>
      simp only [e] at p
      cases e2 : backs kp sd 0 dl with
      | none => simp only [e2] at p
      | some l =>
        simp only [e2] at p
        intro C xa v σ' H' Fs' h1 h2 h3 h4 h5 h6
        obtain ⟨F', r', m'⟩ := backs_reps (X := cxOf (L2.CX P w) P w K mg base N qual (defScope st) f cdv A outer s H E) hv r h5 h4 (sub h6) e2
        exact p C xa v H' F' h1 h2 h3 r' ((sub h6).less m')
    | ok fl sd =>
      cases fl with
      | brk => simp only [e] at p
      | cont => simp only [e] at p
      | next =>
        simp only [e] at p
        cases e2 : backs kp sd 0 dl with
        | none => simp only [e2] at p
        | some l =>
          simp only [e2] at p
          intro σ' H' Fs' h4 h5 h6
          obtain ⟨F', r', m'⟩ := backs_reps (X := cxOf (L2.CX P w) P w K mg base N qual (defScope st) f cdv A outer s H E) hv r h5 h4 (sub h6) e2
          exact p .non [] H' F' ⟨rfl, rfl⟩ r' (fun _ z => by cases z) ((sub h6).less fun a z => z.elim (fun y => by cases y) (m' a))
      | ret d =>
        simp only [e] at p
        cases e2 : backs kp sd 0 dl with
        | none => simp only [e2] at p
        | some l =>
          simp only [e2] at p
          intro v G σ' H' Fs' h3 h4 h5 dj h6
          obtain ⟨F', r', m'⟩ := backs_reps (X := cxOf (L2.CX P w) P w K mg base N qual (defScope st) f cdv A outer s H E) hv r h5 h4 (sub h6) e2
          exact p v G H' F' h3 r' (fun a ha z => dj a ha (m' a z)) ((sub h6).less fun a z => z.imp id (m' a))
end
/-! ### calls -/
structure Cal (T : List (Addr × Str)) (P : Program) (w : World) (K : PySem.W.Frag) (mg : Str → Option Value) (base : Heap) (k : Nat) (x : Str) (np : Nat) (gd : Bool) (g : FM) : Prop where
  ex : ∃ (f : Addr) (fd : FuncData) (ps : List Str), FnG T P w K mg base k f fd ps np gd g ∧ mg x = some (.ref f) ∧ PySem.W.keepIn K (.ref f) = true ∧ Binds K fd ps []
/-- what a callee made of what it was lent -/
def wb : List Opd → List D → List D → Sd → Sd
  | .nm i :: os, d :: dl, d' :: dl', s => if d.pure then wb os dl dl' s else wb os dl dl' (s.set i (some d'))
  | .own _ :: os, _ :: dl, _ :: dl', s => wb os dl dl' s
  | _, _, _, s => s
def mCall (g : FM) (ms : M (List Opd)) : M Opd := mBind ms fun os => mBind (ownAll os) fun dl s => match g dl with
  | .ok d dl' => .ok (.own d) (wb os dl dl' s)
  | .exc c w dl' => .exc c w (wb os dl dl' s)
  | .stuck => .stuck
section
variable {T : List (Addr × Str)} {X : Cx} {W : WX} {H H1 H' : Hp} {P P1 P' : Addr → Prop} {σ : Sg}
theorem put_id {i : Nat} {v : V} (h : σ[i]? = some (some v)) : σ.set i (some v) = σ := by
  obtain ⟨hi, e⟩ := List.getElem?_eq_some_iff.mp h
  rw [← e]; exact List.set_getElem_self hi
theorem wb_ok : ∀ {os : List Opd} {vs : List V} {F F' : List Addr} {dl dl' : List D} {s : Sd} {Fs : Nat → List Addr}, rA X σ H os vs F → reps X.K H' dl' vs F' → SRel (gx T X) H' σ s Fs → (∀ a ∈ F', ¬ InF Fs a) →
    ∃ Fs', SRel (gx T X) H' σ (wb os dl dl' s) Fs' ∧ ∀ a, InF Fs' a → a ∈ F' ∨ InF Fs a
  | [], vs, F, F', dl, dl', s, Fs, r, q, R, dj => by
    have e : wb [] dl dl' s = s := by unfold wb; rfl
    rw [e]; exact ⟨Fs, R, fun a h => .inr h⟩
  | o :: os, vs, F, F', [], dl', s, Fs, r, q, R, dj => by
    have e : wb (o :: os) [] dl' s = s := by cases o <;> (unfold wb; rfl)
    rw [e]; exact ⟨Fs, R, fun a h => .inr h⟩
  | o :: os, vs, F, F', d :: dl, [], s, Fs, r, q, R, dj => by
    have e : wb (o :: os) (d :: dl) [] s = s := by cases o <;> (unfold wb; rfl)
    rw [e]; exact ⟨Fs, R, fun a h => .inr h⟩
  | .own d0 :: os, vs, F, F', d :: dl, d' :: dl', s, Fs, r, q, R, dj => by
    obtain ⟨v, us, F1, F2, rfl, rfl, _, r1, r2⟩ := r
    obtain ⟨v', us', G1, G2, e, rfl, d12, q1, q2⟩ := q
    cases e
    obtain ⟨Fs', R', m⟩ := wb_ok (dl := dl) r2 q2 R fun a ha => dj a (List.mem_append_right _ ha)
    exact ⟨Fs', by unfold wb; exact R', fun a h => (m a h).imp (List.mem_append_right _) id⟩
  | .nm i :: os, vs, F, F', d :: dl, d' :: dl', s, Fs, r, q, R, dj => by
    obtain ⟨v, us, F1, F2, rfl, rfl, _, r1, r2⟩ := r
    obtain ⟨v', us', G1, G2, e, rfl, d12, q1, q2⟩ := q
    cases e
    unfold wb
    cases hp : d.pure with
    | true =>
      rw [if_pos rfl]
      obtain ⟨Fs', R', m⟩ := wb_ok (dl := dl) r2 q2 R fun a ha => dj a (List.mem_append_right _ ha)
      exact ⟨Fs', R', fun a h => (m a h).imp (List.mem_append_right _) id⟩
    | false =>
      rw [if_neg (by decide)]
      have hi : i < s.length := by
        have := (List.getElem?_eq_some_iff.mp r1.1).1
        rw [← R.len]; exact this
      have R2 := R.put q1 (fun a ha => dj a (List.mem_append_left _ ha)) hi
      rw [put_id r1.1] at R2
      obtain ⟨Fs', R', m⟩ := wb_ok (dl := dl) r2 q2 R2 fun a ha z => (put_sub a z).elim (fun y => d12 a y ha) (dj a (List.mem_append_right _ ha))
      refine ⟨Fs', R', fun a h => ?_⟩
      rcases m a h with z | z
      · exact .inl (List.mem_append_right _ z)
      · exact (put_sub a z).imp (List.mem_append_left _) id
/-- the call itself -/
theorem tA_call {np : Nat} {g : FM} {ms : M (List Opd)} {Q : VK} (hn : Len ms np) (h : tO T X W (mCall g ms) σ H Q) : tA T X W ms σ H fun vs H1 => spF T X.K X.mg np g vs H1 Q (WE W σ) := by
  have key : tA T X W ms σ H fun vs H1 => vs.length = np → spF T X.K X.mg np g vs H1 Q (WE W σ) := by
    refine tM_bind h fun os ds1 vs F H1 Fs1 r1 R1 dj p hl => ⟨hl, ?_⟩
    unfold mBind at p
    cases e : ownAll os ds1 with
    | exc c w s => exact (ownAll_noexc e).elim
    | stuck => simp only [e] at p; exact p.elim
    | ok dl s =>
      simp only [e] at p
      obtain ⟨F', Fs', q1, R', j', s', t'⟩ := ownAll_ok r1 R1 dj e
      refine ⟨dl, F', q1, R'.tab, ?_⟩
      have muP : ∀ a, (a ∈ F ∨ InF Fs1 a) → ∃ o, H1 a = some o ∧ Mu o := fun a h => h.elim (rA_mu r1 a) (R1.mu a)
      have fin : ∀ {H' : Hp} {P' : Addr → Prop} {P2 : Addr → Prop}, Step T H1 (fun a => a ∈ F') H' P' → (∀ a, P2 a → P' a ∨ InF Fs' a) → Step T H1 (fun a => a ∈ F ∨ InF Fs1 a) H' P2 := fun {H' P' P2} st hP =>
        ⟨muP, fun a o e n t => st.keep a o e (fun z => n (s' a z)) t, fun a o z e t => (hP a z).elim (fun y => s' a (st.new a o y e t)) fun y => .inr (t' a y), st.tab⟩
      cases eg : g dl with
      | stuck => simp only [eg] at p; exact p.elim
      | exc c w dl' =>
        simp only [eg] at p
        intro C x v H' G' h1 h2 h3 h4 h5
        have R2 := R'.step h5 (fun a h z => j' a z h)
        obtain ⟨Fs2, R3, m⟩ := wb_ok (dl := dl) r1 h4 R2 (fun a ha z => by
          obtain ⟨o, eo, m⟩ := R'.mu a z
          exact j' a (h5.new' ha eo m) z)
        exact p C x v H' Fs2 h1 h2 h3 R3 (fin h5 m)
      | ok d dl' =>
        simp only [eg] at p
        intro v G H' G' h1 h4 hd h5
        have R2 := R'.step h5 (fun a h z => j' a z h)
        have dj2 : ∀ a, (a ∈ G ∨ a ∈ G') → ¬ InF Fs' a := fun a ha z => by
          obtain ⟨o, eo, m⟩ := R'.mu a z
          exact j' a (h5.new' ha eo m) z
        obtain ⟨Fs2, R3, m⟩ := wb_ok (dl := dl) r1 h4 R2 (fun a ha => dj2 a (.inr ha))
        refine p v G H' Fs2 h1 R3 (fun a ha z => ?_) (fin h5 fun a z => ?_)
        · rcases m a z with y | y
          · exact hd a ha y
          · exact dj2 a (.inl ha) y
        · rcases z with z | z
          · exact .inl (.inl z)
          · exact (m a z).imp .inr id
  obtain ⟨ds2, Fs2, R2, p2⟩ := key
  refine ⟨ds2, Fs2, R2, ?_⟩
  cases e : ms ds2 with
  | exc c w s => rw [e] at p2; exact p2
  | stuck => rw [e] at p2; exact p2
  | ok os s =>
    rw [e] at p2
    intro vs F H' Fs' h1 h2 h3 h4
    exact p2 vs F H' Fs' h1 h2 h3 h4 (by rw [rA_len h1]; exact hn _ _ _ e)
/-- the callee runs; what it raises is wished for at the caller's slots -/
theorem run_fnG {k np : Nat} {f : Addr} {fd : FuncData} {ps : List Str} {gd : Bool} {g : FM} {pins : List (Addr × Obj)} {s : Shared} {Q : VK} {us : List Value} {vs : List V} {args : Args} (F : FnG T X.prog X.w X.K X.mg X.base k f fd ps np gd g) (hr : Room k X.A) (hg : gd = true → X.A.guards = some []) (tk : Takes X W)
    (I : Inv X pins σ H s) (hb : BindsTo s fd args (ps.zip us)) (r : Vals vs us) (h : spF T X.K X.mg np g vs H Q (WE W σ)) : codeAny (model X.prog X.w) X.A (.call (.ref f) args) (fun r s' => match r with
      | .ok (.ret u) => EP X pins σ Q u s'
      | .ok _ => False
      | .error e => X.xe e s') s := by
  refine codeAny_mono (F.run X.A X.stack s H args us vs Q (WE W σ) hr hg I.env0 hb r h) fun r s' hq => ?_
  cases r with
  | error e => exact passAt tk σ pins H s e s' I hq
  | ok fl =>
    cases fl with
    | ret u => exact I.after hq
    | next => exact False.elim hq
    | brk => exact False.elim hq
    | cont => exact False.elim hq
theorem call_fnG {k np : Nat} {f : Addr} {fd : FuncData} {ps : List Str} {gd : Bool} {g : FM} {pins : List (Addr × Obj)} {s : Shared} {Q : VK} {us : List Value} {vs : List V} (F : FnG T X.prog X.w X.K X.mg X.base k f fd ps np gd g) (hr : Room k X.A) (hg : gd = true → X.A.guards = some []) (tk : Takes X W) (hb : Binds X.K fd ps [])
    (I : Inv X pins σ H s) (r : Vals vs us) (h : spF T X.K X.mg np g vs H Q (WE W σ)) : wpAny (model X.prog X.w) X.A (call (.ref f) us) (EP X pins σ Q) X.xe s := by
  have hl : us.length = ps.length := by rw [← r.length, h.1, F.pl]
  have b := hb s us I.kIn (by rw [List.append_nil]; exact hl)
  rw [List.append_nil] at b
  refine wpAny_call (codeAny_mono (run_fnG F hr hg tk I b r h) fun r s' hq => ?_)
  match r, hq with
  | .error e, hq => exact hq
  | .ok (.ret u), hq => exact hq
theorem so_call {k j : Nat} {x : Str} {np : Nat} {gd : Bool} {g : FM} {e : Expr} {es : List Expr} {ms : M (List Opd)} {p pos : Pos} (c : Cal T X.prog X.w X.K X.mg X.base k x np gd g) (hr : Room j X.A) (hk : k ≤ j) (hgd : gd = true → X.A.guards = some []) (tk : Takes X W) (hg : Gl X x) (ha : SA T X W (e :: es) ms) (hn : Len ms np)
    (hdb : (x == ("__debug__" : Str)) = false := by decide) (he : starEach (e :: es) X.env = (false, eval e X.env) :: starEach es X.env := by rfl) (hpl : (backTo pos (starEach es X.env)).any (·.1) = false := by rfl) : SO T X W (.Call (.Name x p) (e :: es) [] pos) (mCall g ms) := by
  obtain ⟨f, fd, ps, F, hm, hkp, hb⟩ := c.ex
  refine ⟨⟨fun pins s σ H Q I q => wpAny_Call_Name_kw (ld_glob I hg hm (PySem.W.callWith_K (h₀ := X.base) I.ok.mod.kin hkp (thn (ha.run.run pos pins s σ H _ I (tA_call hn q)) fun us s1 hh => ?_) he hpl) hdb)⟩⟩
  obtain ⟨vs, H1, I1, r, q1⟩ := hh
  exact ⟨I1.kIn, call_fnG F (hr.mono hk) hgd tk hb I1 r q1⟩
theorem so_call0 {k j : Nat} {x : Str} {gd : Bool} {g : FM} {p pos : Pos} (c : Cal T X.prog X.w X.K X.mg X.base k x 0 gd g) (hr : Room j X.A) (hk : k ≤ j) (hgd : gd = true → X.A.guards = some []) (tk : Takes X W) (hg : Gl X x) (hdb : (x == ("__debug__" : Str)) = false := by decide) : SO T X W (.Call (.Name x p) [] [] pos) (mCall g mNil) := by
  obtain ⟨f, fd, ps, F, hm, hkp, hb⟩ := c.ex
  refine ⟨⟨fun pins s σ H Q I q => wpAny_Call_Name_kw (ld_glob I hg hm ?_ hdb)⟩⟩
  exact PySem.W.callWith_K0 I.kIn hkp (call_fnG (us := []) (vs := []) F (hr.mono hk) hgd tk hb I .nil (tA_nil (tA_call len_nil q)))
end
end TQ
set_option maxHeartbeats 4000000
namespace TQ
open PySem PySem.Spec PyProof.Rows L2
section
variable {T : List (Addr × Str)} {X : Cx} {W : WX} {H H1 H' : Hp} {P P1 P' : Addr → Prop} {σ : Sg} {kp : List Nat}
/-! ### targets -/
/-- what a target makes of the slots -/
abbrev Tg := D → Sd → Option Sd
def tG (T : List (Addr × Str)) (X : Cx) (kp : List Nat) (g : Tg) : TG := fun v σ H Q => ∃ (d : D) (F : List Addr) (ds : Sd) (Fs : Nat → List Addr), rep X.K H d v F ∧ SRel (gx T X) H σ ds Fs ∧ (∀ x ∈ F, ¬ InF Fs x) ∧
  match g d ds with
  | some ds' => ∀ σ' Fs', Kp kp σ σ' → SRel (gx T X) H σ' ds' Fs' → (∀ a, InF Fs' a → a ∈ F ∨ InF Fs a) → Q σ' H
  | none => False
structure SG (T : List (Addr × Str)) (X : Cx) (kp : List Nat) (tg : Expr) (g : Tg) : Prop where
  run : PG X tg (tG T X kp g)
def tGs (T : List (Addr × Str)) (X : Cx) (kp : List Nat) (g : List D → Sd → Option Sd) : TGs := fun vs σ H Q => ∃ (l : List D) (F : List Addr) (ds : Sd) (Fs : Nat → List Addr), reps X.K H l vs F ∧ SRel (gx T X) H σ ds Fs ∧ (∀ x ∈ F, ¬ InF Fs x) ∧
  match g l ds with
  | some ds' => ∀ σ' Fs', Kp kp σ σ' → SRel (gx T X) H σ' ds' Fs' → (∀ a, InF Fs' a → a ∈ F ∨ InF Fs a) → Q σ' H
  | none => False
structure SGs (T : List (Addr × Str)) (X : Cx) (kp : List Nat) (tg : List Expr) (g : List D → Sd → Option Sd) : Prop where
  run : PGs X tg (tGs T X kp g)
def gNm (i : Nat) : Tg := fun d s => if i < s.length then some (s.set i (some d)) else none
theorem PG.imp {e : Expr} {t t' : TG} (h : PG X e t) (hi : ∀ v σ H Q, t' v σ H Q → t v σ H Q) : PG X e t' := ⟨fun pins s σ H v u Q I r q => h.run pins s σ H v u Q I r (hi _ _ _ _ q)⟩
theorem PGs.imp {e : List Expr} {t t' : TGs} (h : PGs X e t) (hi : ∀ v σ H Q, t' v σ H Q → t v σ H Q) : PGs X e t' := ⟨fun pins s σ H v u Q I r q => h.run pins s σ H v u Q I r (hi _ _ _ _ q)⟩
theorem sg_nm (i : Nat) {x : Str} {pos : Pos} (hN : X.N.Nodup) (hk : i ∉ kp := by decide) (hi : X.N[i]? = some x := by rfl) (hx : Loc X.env.scope x := by first | exact Or.inl rfl | exact Or.inr rfl)
    (hf : X.fn x = true ∨ X.env.scope.names.lookup x = some .local := by first | exact .inl rfl | exact .inr rfl) : SG T X kp (.Name x pos) (gNm i) :=
  ⟨PG.imp (pg_name hN hi hx hf) fun v σ H Q ⟨d, F, ds, Fs, r, R, dj, p⟩ => by
    unfold gNm at p
    by_cases hl : i < ds.length
    · simp only [if_pos hl] at p
      exact p _ _ (Kp.set hk) (R.put r dj hl) fun a z => put_sub a z
    · simp only [if_neg hl] at p⟩
def gNil' : List D → Sd → Option Sd := fun l s => match l with
  | [] => some s
  | _ => none
def gCons' (g : Tg) (gs : List D → Sd → Option Sd) : List D → Sd → Option Sd := fun l s => match l with
  | d :: l => (match g d s with | some s' => gs l s' | none => none)
  | [] => none
theorem sgs_nil : SGs T X kp [] gNil' := ⟨PGs.imp pgs_nil fun v σ H Q ⟨l, F, ds, Fs, r, R, dj, p⟩ => by
  cases l with
  | nil => exact ⟨r.1, p σ Fs .refl R fun a h => .inr h⟩
  | cons d l => exact p.elim⟩
theorem sgs_cons {e : Expr} {es : List Expr} {g : Tg} {gs : List D → Sd → Option Sd} (h : SG T X kp e g) (hs : SGs T X kp es gs) (ha : (assignEach (e :: es) X.env).map (·.2) = assign e X.env :: (assignEach es X.env).map (·.2) := by rfl) : SGs T X kp (e :: es) (gCons' g gs) :=
  ⟨PGs.imp (pgs_cons h.run hs.run ha) fun v σ H Q ⟨l, F, ds, Fs, r, R, dj, p⟩ => by
    cases l with
    | nil => exact p.elim
    | cons d l =>
      obtain ⟨v, us, F1, F2, rfl, rfl, d12, r1, r2⟩ := r
      refine ⟨v, us, rfl, d, F1, ds, Fs, r1, R, fun x hx => dj x (List.mem_append_left _ hx), ?_⟩
      unfold gCons' at p
      cases e1 : g d ds with
      | none => simp only [e1] at p
      | some s1 =>
        simp only [e1] at p
        intro σ1 Fs1 k1 R1 m1
        refine ⟨l, F2, s1, Fs1, r2, R1, fun x hx z => (m1 x z).elim (fun y => d12 x y hx) (dj x (List.mem_append_right _ hx)), ?_⟩
        cases e2 : gs l s1 with
        | none => simp only [e2] at p
        | some s2 =>
          simp only [e2] at p
          exact fun σ2 Fs2 k2 R2 m2 => p σ2 Fs2 (k1.trans k2) R2 fun a z => (m2 a z).elim (fun y => .inl (List.mem_append_right _ y)) fun y => (m1 a y).imp (List.mem_append_left _) id⟩
def gTup' (n : Nat) (gs : List D → Sd → Option Sd) : Tg := fun d s => match d with
  | .tup l => if l.length = n then gs l s else none
  | _ => none
theorem sg_tup {es : List Expr} {k n : Nat} {pos : Pos} {gs : List D → Sd → Option Sd} (hc : X.calm = true) (h : SGs T X kp es gs)
    (hn : (assignEach es X.env).length = n := by rfl) (hst : (assignEach es X.env).findIdx? (·.1) = none := by rfl) : SG T X kp (.Tuple es k pos) (gTup' n gs) :=
  ⟨PG.imp (pg_tup hc h.run hn hst) fun v σ H Q ⟨d, F, ds, Fs, r, R, dj, p⟩ => by
    cases d with
    | tup l =>
      unfold gTup' at p
      obtain ⟨a, vs, rfl, hT, rr⟩ := r
      by_cases hl : l.length = n
      · simp only [if_pos hl] at p
        exact ⟨a, vs, rfl, hT, by rw [reps_length rr]; exact hl, l, F, ds, Fs, rr, R, dj, p⟩
      · simp only [if_neg hl] at p
    | _ => exact p.elim⟩
/-- target = value -/
def sAsg (g : Tg) (m : M Opd) : Sm := sBind m fun o => sBind (toOwn o) fun d s => match g d s with
  | some s' => .ok .next s'
  | none => .stuck
theorem ss_asg {tg e : Expr} {m : M Opd} {g : Tg} {pos : Pos} (h : SO T X W e m) (hg : SG T X kp tg g) (hs : swapsWithSole [tg] e pos.line X.env = pure false := by rfl) (hw : swappedStores [tg] e X.env = pure none := by rfl) (h1 : (assignEach [tg] X.env).map (·.2) = [assign tg X.env] := by rfl) : SS T X W kp (.Assign [tg] e pos) (sAsg g m) :=
  ⟨PS.imp (ps_asg h.run hg.run hs hw h1) fun Dn σ H q => tS_bind q fun o ds1 v F H1 Fs1 r R1 dj p => toOwn_post r R1 dj p fun d ds2 F2 Fs2 r2 R2 dj2 p2 => by
    refine ⟨d, F2, ds2, Fs2, r2, R2, dj2, ?_⟩
    cases e : g d ds2 with
    | none => simp only [e] at p2; exact p2
    | some s' =>
      simp only [e] at p2
      exact fun σ' Fs' k R' m' => p2 σ' H1 Fs' k R' ((Step.refl fun a z => z.elim (rep_mu d v F2 r2 a) (R2.mu a)).less fun a z => m' a z)⟩
/-- a, b = x, y with two plain names -/
def sPar (i j : Nat) (ms : M (List Opd)) : Sm := sBind ms fun os => sBind (ownAll os) fun l s => match l with
  | [a, b] => if i < s.length ∧ j < s.length then .ok .next ((s.set i (some a)).set j (some b)) else .stuck
  | _ => .stuck
theorem ownAll_post {os : List Opd} {vs : List V} {F : List Addr} {ds : Sd} {Fs : Nat → List Addr} {Dn : Ends} {k : List D → Sm} {R : Prop} (r : rA X σ H os vs F) (R1 : SRel (gx T X) H σ ds Fs) (dj : ∀ x ∈ F, ¬ InF Fs x)
    (p : PostS T X W kp Dn H (fun x => x ∈ F ∨ InF Fs x) σ (sBind (ownAll os) k ds)) (hk : ∀ l ds1 F1 Fs1, reps X.K H l vs F1 → SRel (gx T X) H σ ds1 Fs1 → (∀ x ∈ F1, ¬ InF Fs1 x) → PostS T X W kp Dn H (fun x => x ∈ F1 ∨ InF Fs1 x) σ (k l ds1) → R) : R := by
  unfold sBind at p
  cases e : ownAll os ds with
  | exc c w s => exact (ownAll_noexc e).elim
  | stuck => rw [e] at p; exact p.elim
  | ok d s =>
    rw [e] at p
    obtain ⟨F', Fs', q1, R', j', s', t'⟩ := ownAll_ok r R1 dj e
    exact hk d s F' Fs' q1 R' j' (PostS.less (fun a h => h.elim (s' a) fun z => .inr (t' a z)) (fun a h => h.elim (rA_mu r a) (R1.mu a)) p)
theorem reps_two {K : PySem.W.Frag} {a b : D} {vs : List V} {F : List Addr} (h : reps K H [a, b] vs F) : ∃ v u F1 F2, vs = [v, u] ∧ F = F1 ++ F2 ∧ (∀ x ∈ F1, x ∉ F2) ∧ rep K H a v F1 ∧ rep K H b u F2 := by
  obtain ⟨v, us, F1, F2, rfl, rfl, d, r1, u, us', G1, G2, rfl, rfl, d2, r2, e1, e2⟩ := h
  subst e1 e2
  exact ⟨v, u, F1, G1, rfl, by simp, by simpa using d, r1, r2⟩
theorem ss_par (i j : Nat) {x y : Str} {a b : Expr} {ms : M (List Opd)} {px py pt pos : Pos} {kt k2 pt2} (hc : X.calm = true) (hN : X.N.Nodup) (h : SA T X W [a, b] ms) (hki : i ∉ kp := by decide) (hkj : j ∉ kp := by decide) (hi : X.N[i]? = some x := by rfl) (hj : X.N[j]? = some y := by rfl) (hij : i ≠ j := by decide)
    (hx : X.env.scope.names.lookup x = some .local := by rfl) (hy : X.env.scope.names.lookup y = some .local := by rfl)
    (hw : swappedStores [.Tuple [.Name x px, .Name y py] kt pt] (.Tuple [a, b] k2 pt2) X.env = pure (some [x, y]) := by rfl)
    (hs : swapsWithSole [.Tuple [.Name x px, .Name y py] kt pt] (.Tuple [a, b] k2 pt2) pos.line X.env = pure false := by rfl) : SS T X W kp (.Assign [.Tuple [.Name x px, .Name y py] kt pt] (.Tuple [a, b] k2 pt2) pos) (sPar i j ms) :=
  ⟨PS.imp (ps_par hc hN hi hj hij hx hy h.run hw hs) fun Dn σ H q => tS_bind q fun os ds1 vs F H1 Fs1 r R1 dj p => ownAll_post r R1 dj p fun l ds2 F2 Fs2 r2 R2 dj2 p2 => by
    match l, r2, p2 with
    | [], r2, p2 => exact p2.elim
    | [_], r2, p2 => exact p2.elim
    | _ :: _ :: _ :: _, r2, p2 => exact p2.elim
    | [da, db], r2, p2 =>
      obtain ⟨v, u, G1, G2, rfl, rfl, d12, q1, q2⟩ := reps_two r2
      refine ⟨v, u, rfl, ?_⟩
      by_cases hl : i < ds2.length ∧ j < ds2.length
      · simp only [if_pos hl] at p2
        have Ra := R2.put q1 (fun z hz => dj2 z (List.mem_append_left _ hz)) hl.1
        have Rb := Ra.put (i := j) q2 (fun z hz y => (put_sub z y).elim (fun w => d12 z w hz) (dj2 z (List.mem_append_right _ hz))) (by simpa using hl.2)
        refine p2 _ H1 _ ((Kp.set hki).trans (Kp.set hkj)) Rb ((Step.refl fun a z => z.elim (reps_mu _ _ _ r2 a) (R2.mu a)).less fun a z => ?_)
        rcases put_sub a z with y | y
        · exact .inl (List.mem_append_right _ y)
        · exact (put_sub a y).imp (List.mem_append_left _) id
      · simp only [if_neg hl] at p2
        exact p2.elim⟩
/-! ### a list that is changed where it stands -/
/-- the list of slot j, its object and its items' things -/
theorem SRel.lst {G : Gx} {ds : Sd} {Fs : Nat → List Addr} {j : Nat} {l : List D} (R : SRel G H σ ds Fs) (h : ds[j]? = some (some (.lst l))) :
    ∃ a vs Gs, σ[j]? = some (some (.ref a)) ∧ H a = some (.lst vs) ∧ Fs j = a :: Gs ∧ a ∉ Gs ∧ reps G.K H l vs Gs := by
  obtain ⟨v, e, a, vs, Gs, rfl, e2, e3, n, r⟩ := R.at_ j _ h
  exact ⟨a, vs, Gs, e, e2, e3, n, r⟩
theorem step_lst {a : Addr} {vs vs' : List V} (hH : H a = some (.lst vs)) : Step T H (fun x => x = a) (upd H a (.lst vs')) (fun x => x = a) := by
  refine ⟨fun b e => ⟨.lst vs, e.symm ▸ hH, trivial⟩, fun b o e n t => by rw [upd_ne n]; exact e, fun b o h _ _ => h, fun hT p hp => ?_⟩
  obtain ⟨ps, h1, h2, h3⟩ := hT p hp
  have hpa : p.1 ≠ a := fun z => by rw [z, hH] at h1; cases h1
  refine ⟨ps, by rw [upd_ne hpa]; exact h1, h2, fun pos cv hc => ?_⟩
  obtain ⟨c, e1, e2⟩ := h3 pos cv hc
  refine ⟨c, e1, ?_⟩
  have : c ≠ a := fun z => by
    rw [z, hH] at e2
    unfold LamX.CodeO at e2; cases e2
  rw [upd_ne this]; exact e2
/-- it is changed: F are further things that it takes in -/
theorem SRel.chg {G : Gx} {ds : Sd} {Fs : Nat → List Addr} {j : Nat} {l l' : List D} {a : Addr} {vs vs' : List V} {Gs Gs' F : List Addr} (R : SRel G H σ ds Fs) (h : ds[j]? = some (some (.lst l))) (hσ : σ[j]? = some (some (.ref a)))
    (hH : H a = some (.lst vs)) (hF : Fs j = a :: Gs) (n' : a ∉ Gs') (r' : reps G.K H l' vs' Gs') (sub : ∀ b ∈ Gs', b ∈ Gs ∨ b ∈ F) (muF : ∀ b ∈ F, ∃ o, H b = some o ∧ Mu o) (djF : ∀ b ∈ F, ¬ InF Fs b) :
    SRel G (upd H a (.lst vs')) σ (ds.set j (some (.lst l'))) (fun i => if i = j then a :: Gs' else Fs i) ∧ Step G.T H (fun x => x ∈ F ∨ InF Fs x) (upd H a (.lst vs')) (InF fun i => if i = j then a :: Gs' else Fs i) := by
  have hj : j < ds.length := (List.getElem?_eq_some_iff.mp h).1
  have muA : ∀ b, (b ∈ F ∨ InF Fs b) → ∃ o, H b = some o ∧ Mu o := fun b z => z.elim (muF b) (R.mu b)
  have st := step_lst (T := G.T) (vs' := vs') hH
  have ina : ∀ i, i ≠ j → a ∉ Fs i := fun i hi z => R.dj i j a hi z (by rw [hF]; exact List.mem_cons_self)
  have nF : a ∉ F := fun z => djF a z ⟨j, by rw [hF]; exact List.mem_cons_self⟩
  have gsub : ∀ b ∈ Gs', b ∈ F ∨ InF Fs b := fun b hb => (sub b hb).elim (fun z => .inr ⟨j, by rw [hF]; exact List.mem_cons_of_mem _ z⟩) .inl
  refine ⟨⟨by rw [List.length_set]; exact R.len, fun i d e => ?_, fun i hi => ?_, fun i k b hik h1 h2 => ?_, st.tab R.tab⟩, ?_⟩
  · by_cases hi : i = j
    · subst hi
      rw [List.getElem?_set_self hj] at e
      cases e
      simp only [if_pos]
      exact ⟨_, hσ, a, vs', Gs', rfl, upd_same, rfl, n', reps_step st l' vs' Gs' r' fun b hb z => n' (by rw [← z]; exact hb)⟩
    · rw [List.getElem?_set_ne (Ne.symm hi)] at e
      simp only [if_neg hi]
      obtain ⟨v, e1, r1⟩ := R.at_ i d e
      exact ⟨v, e1, rep_step st d v _ r1 fun b hb z => ina i hi (by rw [← z]; exact hb)⟩
  · by_cases hij : i = j
    · subst hij
      exact absurd (List.getElem?_set_self hj) (hi _)
    · simp only [if_neg hij]
      exact R.no i fun d e => hi d (by rw [List.getElem?_set_ne (Ne.symm hij)]; exact e)
  · have inj : ∀ i b, i ≠ j → b ∈ Fs i → b ∉ a :: Gs' := fun i b hi hb z => by
      rcases List.mem_cons.mp z with y | y
      · exact ina i hi (by rw [← y]; exact hb)
      · rcases sub b y with w | w
        · exact R.dj i j b hi hb (by rw [hF]; exact List.mem_cons_of_mem _ w)
        · exact djF b w ⟨i, hb⟩
    by_cases hi : i = j
    · simp only [if_pos hi] at h1
      have hk : k ≠ j := fun z => hik (hi.trans z.symm)
      simp only [if_neg hk] at h2
      exact inj k b hk h2 h1
    · simp only [if_neg hi] at h1
      by_cases hk : k = j
      · simp only [if_pos hk] at h2
        exact inj i b hi h1 h2
      · simp only [if_neg hk] at h2
        exact R.dj i k b hik h1 h2
  · refine ⟨muA, fun b o e n t => ?_, fun b o z _ _ => ?_, st.tab⟩
    · have : b ≠ a := fun z => n (.inr ⟨j, by rw [hF, z]; exact List.mem_cons_self⟩)
      rw [upd_ne this]; exact e
    · obtain ⟨i, hi⟩ := z
      by_cases hij : i = j
      · simp only [if_pos hij] at hi
        rcases List.mem_cons.mp hi with y | y
        · exact .inr ⟨j, by rw [hF, y]; exact List.mem_cons_self⟩
        · exact gsub b y
      · simp only [if_neg hij] at hi
        exact .inr ⟨i, hi⟩
/-! ### methods of a list that a name holds, as a statement's expression -/
/-- the slot's list turned by what comes: f gives the new list and the answer -/
def mMeth (j : Nat) (ms : M (List Opd)) (f : List D → List D → Option (List D × D)) : M Opd := fun s => match (s[j]?).join with
  | some (.lst _) => mBind ms (fun os => mBind (ownAll os) fun l s => match (s[j]?).join with
      | some (.lst xs) => (match f xs l with | some (xs', d) => .ok (.own d) (s.set j (some (.lst xs'))) | none => .stuck)
      | _ => .stuck) s
  | _ => .stuck
/-- what a method's rule must do for it -/
def MtOk (K : PySem.W.Frag) (r : V → List V → Hp → VK → Prop) (f : List D → List D → Option (List D × D)) : Prop :=
  ∀ (H : Hp) (a : Addr) (vs us : List V) (xs l xs' : List D) (d : D) (Gs F : List Addr) (Q : VK), H a = some (.lst vs) → reps K H xs vs Gs → reps K H l us F → (∀ b ∈ Gs, b ∉ F) → f xs l = some (xs', d) →
    (∀ vs' Gs' v, reps K H xs' vs' Gs' → (∀ b ∈ Gs', b ∈ Gs ∨ b ∈ F) → (∀ H2, rep K H2 d v []) → Q v (upd H a (.lst vs'))) → r (.ref a) us H Q
theorem so_meth (j : Nat) {x name : Str} {p apos cpos : Pos} {e : Expr} {es : List Expr} {id : String} {ms : M (List Opd)} {r : V → List V → Hp → VK → Prop} {f : List D → List D → Option (List D × D)} (slot : Slot "list" name id) (hty : typeOf (.builtin id) = pure (.type "method_descriptor")) (hm : MtR X id r) (hf : MtOk X.K r f)
    (ha : SA T X W (e :: es) ms) (hN : X.N[j]? = some x := by rfl) (hv : Vis X.env.scope x := by first | exact Or.inl rfl | exact Or.inr (Or.inl rfl) | exact Or.inr (Or.inr rfl)) (hd : (x == ("__debug__" : Str)) = false := by decide)
    (hcd : (x == ("__classdict__" : Str)) = false := by decide) (hbase : attributeBase (.Name x p) name X.env (eval (.Name x p) X.env) = eval (.Name x p) X.env := by rfl) (hst : starEach (e :: es) X.env = (false, eval e X.env) :: starEach es X.env := by rfl) (hpl : (backTo cpos (starEach es X.env)).any (·.1) = false := by rfl)
    (hpe : ∀ {to : TE} {t : TA}, PE X (.Name x p) to → PA X (e :: es) t → PE X (.Call (.Attribute (.Name x p) name apos) (e :: es) [] cpos) (tBM X.K "list" r to t)) :
    SO T X W (.Call (.Attribute (.Name x p) name apos) (e :: es) [] cpos) (mMeth j ms f) := by
  refine ⟨PE.imp (hpe (pe_var (i := j) hN hv hd hcd) ha.run) fun σ H Q q => ?_⟩
  obtain ⟨ds, Fs, R, p⟩ := q
  unfold mMeth at p
  cases e1 : (ds[j]?).join with
  | none => simp only [e1] at p; exact p.elim
  | some d0 =>
    cases d0 with
    | lst l0 =>
      simp only [e1] at p
      obtain ⟨a, vs0, G0, hσ, hH0, hF0, n0, r0⟩ := R.lst (join_some e1)
      refine ⟨.ref a, hσ, .inl ⟨rfl, vs0, SqL.of hH0⟩, ?_⟩
      have q : tO T X W (mBind ms fun os => mBind (ownAll os) fun l s => match (s[j]?).join with
          | some (.lst xs) => (match f xs l with | some (xs', d) => .ok (.own d) (s.set j (some (.lst xs'))) | none => .stuck)
          | _ => .stuck) σ H Q := ⟨ds, Fs, R, p⟩
      refine tM_bind q fun os ds1 vs F H1 Fs1 r1 R1 dj p1 => ?_
      unfold mBind at p1
      cases e2 : ownAll os ds1 with
      | exc c w s => exact (ownAll_noexc e2).elim
      | stuck => simp only [e2] at p1; exact p1.elim
      | ok l s =>
        simp only [e2] at p1
        obtain ⟨F', Fs', q1, R', j', s', t'⟩ := ownAll_ok r1 R1 dj e2
        cases e3 : (s[j]?).join with
        | none => simp only [e3] at p1; exact p1.elim
        | some d1 =>
          cases d1 with
          | lst xs =>
            simp only [e3] at p1
            cases e4 : f xs l with
            | none => simp only [e4] at p1; exact p1.elim
            | some pr =>
              obtain ⟨xs', d⟩ := pr
              simp only [e4] at p1
              obtain ⟨a', vs', Gs, hσ', hH, hF, n, rr⟩ := R'.lst (join_some e3)
              rw [hσ] at hσ'
              cases hσ'
              refine hf H1 a vs' vs xs l xs' d Gs F' Q hH rr q1 (fun b hb z => j' b z ⟨j, by rw [hF]; exact List.mem_cons_of_mem _ hb⟩) e4 fun vs2 Gs2 v r2 sub rv => ?_
              have na : a ∉ Gs2 := fun z => (sub a z).elim n fun y => j' a y ⟨j, by rw [hF]; exact List.mem_cons_self⟩
              obtain ⟨R2, st2⟩ := R'.chg (join_some e3) hσ hH hF na r2 sub (reps_mu l vs F' q1) j'
              refine p1 v [] _ _ (rv _) R2 (fun _ z => by cases z) ?_
              refine (st2.weak (P1 := fun x => x ∈ F ∨ InF Fs1 x) (fun b z => z.elim (s' b) fun y => .inr (t' b y)) (fun b z => z.elim (rA_mu r1 b) (R1.mu b))).less fun b z => z.elim (fun y => by cases y) fun y => y
          | _ => simp only [e3] at p1; exact p1.elim
    | _ => simp only [e1] at p; exact p.elim
def fAppend : List D → List D → Option (List D × D) := fun xs l => match l with
  | [d] => if xs.length < sizeLine then some (xs ++ [d], .non) else none
  | _ => none
def fExtend : List D → List D → Option (List D × D) := fun xs l => match l with
  | [.lst ys] => if xs.length + ys.length ≤ sizeLine then some (xs ++ ys, .non) else none
  | _ => none
theorem ok_append {K : PySem.W.Frag} : MtOk K rAppend fAppend := fun H a vs us xs l xs' d Gs F Q hH r rl dj hf k => by
  match l, rl, hf with
  | [], _, hf => cases hf
  | _ :: _ :: _, _, hf => cases hf
  | [y], rl, hf =>
    unfold fAppend at hf
    by_cases hz : xs.length < sizeLine
    · simp only [if_pos hz] at hf
      cases hf
      obtain ⟨v, us', F1, F2, rfl, rfl, d12, r1, e1, e2⟩ := rl
      subst e1 e2
      refine ⟨a, vs, v, rfl, rfl, hH, by rw [reps_length r]; exact hz, k _ (Gs ++ F1) .non (reps_app r (reps_one r1) fun b hb z => dj b hb (List.mem_append_left _ z)) (fun b hb => ?_) fun _ => ⟨rfl, rfl⟩⟩
      rcases List.mem_append.mp hb with z | z
      · exact .inl z
      · exact .inr (List.mem_append_left _ z)
    · simp only [if_neg hz] at hf; cases hf
theorem ok_extend {K : PySem.W.Frag} : MtOk K rExtend fExtend := fun H a vs us xs l xs' d Gs F Q hH r rl dj hf k => by
  match l, rl, hf with
  | [], _, hf => cases hf
  | _ :: _ :: _, _, hf => unfold fExtend at hf; split at hf <;> first | cases hf | (rename_i h; cases h)
  | [.lst ys], rl, hf =>
    unfold fExtend at hf
    by_cases hz : xs.length + ys.length ≤ sizeLine
    · simp only [if_pos hz] at hf
      cases hf
      obtain ⟨v, us', F1, F2, rfl, rfl, d12, r1, e1, e2⟩ := rl
      subst e1 e2
      obtain ⟨b, zs, G1, rfl, hb, rfl, nb, r2⟩ := r1
      refine ⟨a, b, vs, zs, rfl, rfl, hH, hb, by rw [reps_length r, reps_length r2]; exact hz, k _ (Gs ++ G1) .non (reps_app r r2 fun c hc z => dj c hc (by simp [z])) (fun c hc => ?_) fun _ => ⟨rfl, rfl⟩⟩
      rcases List.mem_append.mp hc with z | z
      · exact .inl z
      · exact .inr (by simp [z])
    · simp only [if_neg hz] at hf; cases hf
  | [.non], _, hf => cases hf
  | [.bl _], _, hf => cases hf
  | [.int _], _, hf => cases hf
  | [.str _], _, hf => cases hf
  | [.tup _], _, hf => cases hf
  | [.frl _], _, hf => cases hf
  | [.opq _], _, hf => cases hf
end
end TQ
set_option maxHeartbeats 4000000
namespace TQ
open PySem PySem.Spec PyProof.Rows L2
section
variable {T : List (Addr × Str)} {X : Cx} {W : WX} {H H1 H' : Hp} {P P1 P' : Addr → Prop} {σ : Sg} {kp js : List Nat}
/-! ### what is walked -/
/-- the items, as they stand at a turn -/
abbrev ItS := Sd → Option (List D)
def rI (T : List (Addr × Str)) (X : Cx) (js : List Nat) : Rl ItS It := fun σ H g J F => (∀ a ∈ F, ∃ o, H a = some o ∧ Mu o) ∧ ∃ Hold : Hp → Prop, Hold H ∧
  (∀ (H : Hp) (P : Addr → Prop) (H' : Hp) (P' : Addr → Prop), Hold H → Step T H P H' P' → (∀ a ∈ F, ¬ P a) → Hold H') ∧
  ∀ (i : Nat) (H : Hp) (σ' : Sg) (ds : Sd) (Fs : Nat → List Addr) (l : List D), Hold H → Kp js σ σ' → SRel (gx T X) H σ' ds Fs → (∀ a ∈ F, ¬ InF Fs a) → g ds = some l →
    (i < l.length → J.go i H ∧ ∀ x H', J.yld i H x H' → ∃ d, l[i]? = some d ∧ rep X.K H' d x [] ∧ Fresh H H' []) ∧ (l.length ≤ i → J.stop i H)
structure SI (T : List (Addr × Str)) (X : Cx) (W : WX) (js : List Nat) (tg iter : Expr) (m : M ItS) : Prop where
  run : PI X tg iter (fun σ H R => tM T X W (rI T X js) m σ H R)
def forLoop (g : ItS) (tg : Tg) (body : Sm) : Nat → Nat → Sm
  | 0, i, s => match g s with
    | some l => if l.length = i then .ok .next s else .stuck
    | none => .stuck
  | r + 1, i, s => match g s with
    | some l => if l.length = i + (r + 1) then (match l[i]? with
        | some x => (match tg x s with
          | some s1 => (match body s1 with
            | .ok .next s2 => forLoop g tg body r (i + 1) s2
            | .ok .cont s2 => forLoop g tg body r (i + 1) s2
            | .ok .brk s2 => .ok .next s2
            | .ok (.ret d) s2 => .ok (.ret d) s2
            | .exc c w s2 => .exc c w s2
            | .stuck => .stuck)
          | none => .stuck)
        | none => .stuck) else .stuck
    | none => .stuck
def sFor (mi : M ItS) (tg : Tg) (body : Sm) : Sm := sBind mi fun g s => match g s with
  | some l => forLoop g tg body l.length 0 s
  | none => .stuck
theorem Kp.app {kp js : List Nat} {σ σ' : Sg} (h : Kp (js ++ kp) σ σ') : Kp js σ σ' ∧ Kp kp σ σ' := ⟨⟨h.1, fun i hi => h.2 i (List.mem_append_left _ hi)⟩, ⟨h.1, fun i hi => h.2 i (List.mem_append_right _ hi)⟩⟩
theorem ss_for {tg iter : Expr} {body : List Stmt} {pos : Pos} {mi : M ItS} {g : Tg} {b : Sm} (hp : PassesOwn (model X.prog X.w) X.A X.env X.xe) (hc : X.calm = true) (hi : SI T X W js tg iter mi) (hg : SG T X (js ++ kp) tg g) (hb : SSs T X W (js ++ kp) body b)
    (hs : ∀ x, foldedSetIterable iter X.env x = pure x := by intro _; rfl) : SS T X W kp (.For tg iter body [] pos) (sFor mi g b) := by
  refine ⟨PS.imp (ps_for hp hc hi.run hg.run hb.run hs) fun Dn σ₀ H₀ q => tS_bind q fun it ds1 J F H1 Fs1 r R1 dj p => ?_⟩
  obtain ⟨muF, Hold, h0, stab, turn⟩ := r
  refine ⟨fun i m σ' H' => ∃ ds Fs, SRel (gx T X) H' σ' ds Fs ∧ Hold H' ∧ (∀ a ∈ F, ¬ InF Fs a) ∧ (∀ a ∈ F, ∃ o, H' a = some o ∧ Mu o) ∧ Kp js σ₀ σ' ∧ PostS T X W kp Dn H' (fun x => x ∈ F ∨ InF Fs x) σ' (forLoop it g b m i ds), ?_, ?_⟩
  · cases e : it ds1 with
    | none => simp only [e] at p; exact p.elim
    | some l =>
      simp only [e] at p
      exact ⟨l.length, ds1, Fs1, R1, h0, dj, muF, .refl, p⟩
  · intro i m σ' H' hW
    obtain ⟨ds, Fs, R, hH, djF, muF', kj, p⟩ := hW
    have mu : ∀ a, (a ∈ F ∨ InF Fs a) → ∃ o, H' a = some o ∧ Mu o := fun a z => z.elim (muF' a) (R.mu a)
    cases m with
    | zero =>
      unfold forLoop at p
      cases e : it ds with
      | none => simp only [e] at p; exact p.elim
      | some l =>
        simp only [e] at p
        by_cases hl : l.length = i
        · rw [if_pos hl] at p
          refine .inl ⟨(turn i H' σ' ds Fs l hH kj R djF e).2 (by omega), ?_⟩
          exact p σ' H' Fs .refl R ((Step.refl mu).less fun a z => .inr z)
        · rw [if_neg hl] at p; exact p.elim
    | succ r =>
      unfold forLoop at p
      cases e : it ds with
      | none => simp only [e] at p; exact p.elim
      | some l =>
        simp only [e] at p
        by_cases hl : l.length = i + (r + 1)
        · rw [if_pos hl] at p
          obtain ⟨go, yl⟩ := (turn i H' σ' ds Fs l hH kj R djF e).1 (by omega)
          refine .inr ⟨go, fun σ2 H2 => ∃ ds Fs, SRel (gx T X) H2 σ2 ds Fs ∧ Hold H2 ∧ (∀ a ∈ F, ¬ InF Fs a) ∧ (∀ a ∈ F, ∃ o, H2 a = some o ∧ Mu o) ∧ Kp js σ₀ σ2 ∧ PostS T X W kp Dn H2 (fun x => x ∈ F ∨ InF Fs x) σ2 (forLoop it g b r (i + 1) ds), fun σ2 H2 h => ⟨r, Nat.lt_succ_self _, h⟩, fun x H2 hy => ?_⟩
          obtain ⟨d, e2, rd, fr⟩ := yl x H2 hy
          simp only [e2] at p
          have R2 := R.fresh fr
          refine ⟨d, [], ds, Fs, rd, R2, (fun _ z => by cases z), ?_⟩
          cases e3 : g d ds with
          | none => simp only [e3] at p; exact p
          | some s1 =>
            simp only [e3] at p
            intro σ3 Fs3 k3 R3 m3
            have sub3 : ∀ a, InF Fs3 a → InF Fs a := fun a z => (m3 a z).elim (fun y => by cases y) id
            have stF : Step T H' (fun x => x ∈ F ∨ InF Fs x) H2 (fun x => x ∈ F ∨ InF Fs x) := (fr.step mu).less fun a z => .inr z
            have mu2 : ∀ a ∈ F, ∃ o, H2 a = some o ∧ Mu o := fun a ha => by
              obtain ⟨o, eo, mo⟩ := muF' a ha
              exact ⟨o, fr.keep a o eo, mo⟩
            have muA2 : ∀ a, (a ∈ F ∨ InF Fs a) → ∃ o, H2 a = some o ∧ Mu o := fun a z => z.elim (mu2 a) (R2.mu a)
            have dj3 : ∀ a ∈ F, ¬ InF Fs3 a := fun a ha z => djF a ha (sub3 a z)
            -- what the body reaches, from here
            have lift : ∀ {H4 : Hp} {P4 : Addr → Prop}, Step T H2 (InF Fs3) H4 P4 → Step T H' (fun x => x ∈ F ∨ InF Fs x) H4 (fun x => x ∈ F ∨ P4 x) := fun {H4 P4} st =>
              stF.trans ((st.frame mu2).weak (fun a z => z.imp id (sub3 a)) muA2)
            have again : ∀ {s2 : Sd}, PostS T X W kp Dn H' (fun x => x ∈ F ∨ InF Fs x) σ' (forLoop it g b r (i + 1) s2) → ∀ σ4 H4 Fs4, Kp (js ++ kp) σ3 σ4 → SRel (gx T X) H4 σ4 s2 Fs4 → Step T H2 (InF Fs3) H4 (InF Fs4) →
                ∃ ds Fs, SRel (gx T X) H4 σ4 ds Fs ∧ Hold H4 ∧ (∀ a ∈ F, ¬ InF Fs a) ∧ (∀ a ∈ F, ∃ o, H4 a = some o ∧ Mu o) ∧ Kp js σ₀ σ4 ∧ PostS T X W kp Dn H4 (fun x => x ∈ F ∨ InF Fs x) σ4 (forLoop it g b r (i + 1) ds) := fun {s2} p σ4 H4 Fs4 k4 R4 st => by
              refine ⟨s2, Fs4, R4, stab H2 _ H4 _ (stab H' (fun _ => False) H2 _ hH (fr.step fun _ z => z.elim) fun _ _ z => z) st dj3, st.disj mu2 dj3, fun a ha => ?_, kj.trans (k3.app.1.trans k4.app.1), PostS.step (k3.app.2.trans k4.app.2) (lift st) p⟩
              obtain ⟨o, eo, mo⟩ := mu2 a ha
              exact ⟨o, st.keep a o eo (dj3 a ha) (fun ps z => by rw [z] at mo; exact mo), mo⟩
            refine ⟨s1, Fs3, R3, ?_⟩
            cases e4 : b s1 with
            | stuck => simp only [e4] at p; exact p
            | exc c w s2 =>
              simp only [e4] at p
              exact fun C xa v σ4 H4 Fs4 h1 h2 h3 k4 R4 st => p C xa v σ4 H4 Fs4 h1 h2 h3 (k3.app.2.trans k4.app.2) R4 ((lift st).less fun a z => .inr z)
            | ok fl s2 =>
              cases fl with
              | next => simp only [e4] at p; exact fun σ4 H4 Fs4 k4 R4 st => again p σ4 H4 Fs4 k4 R4 st
              | cont => simp only [e4] at p; exact fun σ4 H4 Fs4 k4 R4 st => again p σ4 H4 Fs4 k4 R4 st
              | brk => simp only [e4] at p; exact fun σ4 H4 Fs4 k4 R4 st => p σ4 H4 Fs4 (k3.app.2.trans k4.app.2) R4 ((lift st).less fun a z => .inr z)
              | ret dd =>
                simp only [e4] at p
                exact fun v G σ4 H4 Fs4 h1 k4 R4 dj4 st => p v G σ4 H4 Fs4 h1 (k3.app.2.trans k4.app.2) R4 dj4 ((lift st).less fun a z => .inr z)
        · rw [if_neg hl] at p; exact p.elim
/-! ### comprehensions -/
def wipeS (s : Sd) : List Nat → Sd
  | [] => s
  | v :: vs => (wipeS s vs).set v none
/-- all slots but these -/
def cpl (n : Nat) (vs : List Nat) : List Nat := (List.range n).filter fun i => !vs.contains i
theorem wipeS_length (s : Sd) : ∀ vs, (wipeS s vs).length = s.length
  | [] => rfl
  | v :: vs => by unfold wipeS; rw [List.length_set, wipeS_length s vs]
theorem wipe_at {σ : Sg} {i : Nat} : ∀ {vs : List Nat}, i ∈ vs → i < σ.length → (wipe σ vs)[i]? = some none
  | v :: vs, h, hl => by
    unfold wipe
    by_cases hv : v = i
    · subst hv
      exact List.getElem?_set_self (by rw [wipe_length]; exact hl)
    · rw [List.getElem?_set_ne hv]
      exact wipe_at ((List.mem_cons.mp h).resolve_left fun z => hv z.symm) hl
theorem wipeS_out {s : Sd} {i : Nat} : ∀ {vs : List Nat}, i ∉ vs → (wipeS s vs)[i]? = s[i]?
  | [], _ => rfl
  | v :: vs, h => by
    have h1 : v ≠ i := fun z => h (by rw [z]; exact List.mem_cons_self)
    unfold wipeS
    rw [List.getElem?_set_ne h1, wipeS_out fun z => h (List.mem_cons_of_mem _ z)]
theorem wipeS_at {s : Sd} {i : Nat} : ∀ {vs : List Nat}, i ∈ vs → ∀ d, (wipeS s vs)[i]? ≠ some (some d)
  | v :: vs, h, d => by
    unfold wipeS
    by_cases hv : v = i
    · subst hv
      by_cases hl : v < (wipeS s vs).length
      · rw [List.getElem?_set_self hl]; intro z; cases z
      · rw [List.getElem?_eq_none (by simpa using hl)]; intro z; cases z
    · rw [List.getElem?_set_ne hv]
      exact wipeS_at ((List.mem_cons.mp h).resolve_left fun z => hv z.symm) d
theorem wipe_cpl {σ σ' : Sg} {n : Nat} {vs : List Nat} (hl : σ.length = n) (hl' : σ'.length = n) (k : Kp (cpl n vs) (wipe σ vs) σ') : wipe σ' vs = wipe σ vs := by
  refine List.ext_getElem? fun i => ?_
  by_cases hi : i < n
  · by_cases hv : i ∈ vs
    · rw [wipe_at hv (by omega), wipe_at hv (by omega)]
    · rw [wipe_out hv]
      exact k.2 i (List.mem_filter.mpr ⟨List.mem_range.mpr hi, by simpa using hv⟩)
  · rw [List.getElem?_eq_none (by rw [wipe_length]; omega), List.getElem?_eq_none (by rw [wipe_length]; omega)]
theorem SRel.wipe {G : Gx} {ds : Sd} {Fs : Nat → List Addr} (R : SRel G H σ ds Fs) (vs : List Nat) : SRel G H (L2.wipe σ vs) (wipeS ds vs) (fun i => if i ∈ vs then [] else Fs i) := by
  refine ⟨by rw [wipe_length, wipeS_length]; exact R.len, fun i d e => ?_, fun i h => ?_, fun i j a hij h1 h2 => ?_, R.tab⟩
  · by_cases hv : i ∈ vs
    · exact absurd e (wipeS_at hv d)
    · rw [wipeS_out hv] at e
      obtain ⟨v, e1, r⟩ := R.at_ i d e
      exact ⟨v, by rw [wipe_out hv]; exact e1, by rw [if_neg hv]; exact r⟩
  · by_cases hv : i ∈ vs
    · exact if_pos hv
    · rw [if_neg hv]
      exact R.no i fun d e => h d (by rw [wipeS_out hv]; exact e)
  · by_cases hv : i ∈ vs
    · simp [hv] at h1
    · by_cases hw : j ∈ vs
      · simp [hw] at h2
      · simp only [if_neg hv] at h1
        simp only [if_neg hw] at h2
        exact R.dj i j a hij h1 h2
theorem wipe_sub {Fs : Nat → List Addr} {vs : List Nat} : ∀ a, InF (fun i => if i ∈ vs then [] else Fs i) a → InF Fs a := fun a ⟨i, hi⟩ => by
  by_cases hv : i ∈ vs
  · simp [hv] at hi
  · simp only [if_neg hv] at hi; exact ⟨i, hi⟩
/-- the slots as they were, for data that names none of the wiped ones -/
theorem SRel.unwipe {G : Gx} {ds : Sd} {Fs : Nat → List Addr} {vs : List Nat} (R : SRel G H (L2.wipe σ vs) ds Fs) : SRel G H σ ds Fs :=
  ⟨by rw [← R.len, wipe_length], fun i d e => by
    obtain ⟨v, e1, r⟩ := R.at_ i d e
    exact ⟨v, (wipe_some e1).1, r⟩, R.no, R.dj, R.tab⟩
def lcLoop (g : ItS) (tg : Tg) (tt : M Bool) (te : M Opd) (vs : List Nat) : Nat → Nat → List D → M (List D)
  | 0, i, acc, s => match g s with
    | some l => if l.length = i then .ok acc s else .stuck
    | none => .stuck
  | r + 1, i, acc, s => match g s with
    | some l => if l.length = i + (r + 1) then (match l[i]? with
        | some x => (match tg x s with
          | some s1 => (match tt s1 with
            | .ok true s2 => (match mBind te toOwn s2 with
              | .ok d s3 => if acc.length < sizeLine then lcLoop g tg tt te vs r (i + 1) (acc ++ [d]) (wipeS s3 vs) else .stuck
              | _ => .stuck)
            | .ok false s2 => lcLoop g tg tt te vs r (i + 1) acc (wipeS s2 vs)
            | _ => .stuck)
          | none => .stuck)
        | none => .stuck) else .stuck
    | none => .stuck
def mLc (mi : M ItS) (tg : Tg) (tt : M Bool) (te : M Opd) (vs : List Nat) : M Opd := mBind mi fun g s => match g (wipeS s vs) with
  | some l => mBind (lcLoop g tg tt te vs l.length 0 []) (fun acc => mRet (.own (.lst acc))) (wipeS s vs)
  | none => .stuck
abbrev W0 : WX := fun _ _ _ _ => False
structure STs (T : List (Addr × Str)) (X : Cx) (W : WX) (ifs : List Expr) (m : M Bool) : Prop where
  run : PTs X ifs (tT T X W m)
theorem PTs.imp {X : Cx} {e : List Expr} {t t' : TT} (h : PTs X e t) (hi : ∀ σ H Q, t' σ H Q → t σ H Q) : PTs X e t' := ⟨fun pins s σ H Q I q => h.run pins s σ H Q I (hi _ _ _ q)⟩
theorem sts_nil : STs T X W [] (mRet true) := ⟨PTs.imp pts_nil fun σ H Q ⟨ds, Fs, R, p⟩ => p true [] H Fs ⟨rfl, rfl⟩ R (fun _ z => by cases z) ((Step.refl R.mu).less fun a z => z.elim (fun y => by cases y) id)⟩
theorem sts_one {c : Expr} {m : M Bool} (h : ST T X W c m) : STs T X W [c] m := ⟨pts_one h.run⟩
/-- the reading of a comprehension, whatever comes behind -/
theorem tLc_of {mi : M ItS} {g : Tg} {tt : M Bool} {te : M Opd} {vs : List Nat} {Q : VK} {σ₀ : Sg} (hjs : ∀ j ∈ js, j ∉ vs) (h : tO T X W (mLc mi g tt te vs) σ₀ H Q) :
    tLc (fun σ H R => tM T X W (rI T X js) mi σ H R) (tG T X (cpl σ₀.length vs) g) (tT T X W0 tt) (tO T X W0 te) vs σ₀ H Q := by
  refine tM_bind h fun it ds1 J F H1 Fs1 r R1 dj p => ?_
  obtain ⟨muF, Hold, h0, stab, turn⟩ := r
  have R1w := R1.wipe vs
  intro Dl hD
  cases e0 : it (wipeS ds1 vs) with
  | none => simp only [e0] at p; exact p.elim
  | some l0 =>
    simp only [e0] at p
    have muP : ∀ a, (a ∈ F ∨ InF Fs1 a) → ∃ o, H1 a = some o ∧ Mu o := fun a z => z.elim (muF a) (R1.mu a)
    have frD : Fresh H1 (upd H1 Dl (.lst [])) [Dl] := Fresh.at1 hD
    refine ⟨fun i m H' => ∃ ds Fs acc G, SRel (gx T X) H' (L2.wipe σ₀ vs) ds Fs ∧ Hold H' ∧ (∀ a ∈ F, ¬ InF Fs a) ∧ (∀ a ∈ F, ∃ o, H' a = some o ∧ Mu o) ∧ rep X.K H' (.lst acc) (.ref Dl) (Dl :: G) ∧ (∀ a ∈ Dl :: G, ¬ InF Fs a) ∧ (∀ a ∈ Dl :: G, a ∉ F) ∧
        Step T H1 (fun x => x ∈ F ∨ InF Fs1 x) H' (fun x => x ∈ F ∨ x ∈ Dl :: G ∨ InF Fs x) ∧ Post T X W (rO X) H1 (fun x => x ∈ F ∨ InF Fs1 x) σ₀ (mBind (lcLoop it g tt te vs m i acc) (fun acc => mRet (.own (.lst acc))) ds) Q, ?_, ?_⟩
    · refine ⟨l0.length, wipeS ds1 vs, _, [], [], R1w.fresh frD, stab H1 (fun _ => False) _ _ h0 (frD.step fun _ z => z.elim) (fun _ _ z => z), fun a ha z => dj a ha (wipe_sub a z), fun a ha => ?_, ⟨Dl, [], [], rfl, upd_same, rfl, by simp, rfl, rfl⟩, fun a ha z => ?_, fun a ha z => ?_, ?_, p⟩
      · obtain ⟨o, eo, mo⟩ := muF a ha
        exact ⟨o, frD.keep a o eo, mo⟩
      · have e : a = Dl := by simpa using ha
        obtain ⟨o, eo, _⟩ := R1.mu a (wipe_sub a z)
        rw [e, hD] at eo; cases eo
      · have e : a = Dl := by simpa using ha
        obtain ⟨o, eo, _⟩ := muF a z
        rw [e, hD] at eo; cases eo
      · refine (frD.step muP).less fun a z => ?_
        rcases z with z | z | z
        · exact .inr (.inl z)
        · exact .inl z
        · exact .inr (.inr (wipe_sub a z))
    · intro i m H' hW
      obtain ⟨ds, Fs, acc, G, R, hH, djF, muF', rD, djD, djDF, st, p⟩ := hW
      have muD := rep_mu (.lst acc) _ _ rD
      have lenσ : (L2.wipe σ₀ vs).length = σ₀.length := wipe_length _ _
      have kj : Kp js σ₀ (L2.wipe σ₀ vs) := ⟨wipe_length _ _, fun j hj => wipe_out (hjs j hj)⟩
      cases m with
      | zero =>
        unfold mBind lcLoop at p
        cases e : it ds with
        | none => simp only [e] at p; exact p.elim
        | some l =>
          simp only [e] at p
          by_cases hl : l.length = i
          · rw [if_pos hl] at p
            refine .inl ⟨(turn i H' _ ds Fs l hH kj R djF e).2 (by omega), ?_⟩
            refine p (.ref Dl) (Dl :: G) H' Fs rD R.unwipe djD (st.less fun a z => ?_)
            exact z.elim (fun y => .inr (.inl y)) fun y => .inr (.inr y)
          · rw [if_neg hl] at p; exact p.elim
      | succ r =>
        have p' := p
        unfold mBind lcLoop at p
        cases e : it ds with
        | none => simp only [e] at p; exact p.elim
        | some l =>
          simp only [e] at p
          by_cases hl : l.length = i + (r + 1)
          · rw [if_pos hl] at p
            obtain ⟨go, yl⟩ := (turn i H' _ ds Fs l hH kj R djF e).1 (by omega)
            refine .inr ⟨go, _, fun H2 h => ⟨r, Nat.lt_succ_self _, h⟩, fun x H2 hy => ?_⟩
            obtain ⟨d, e2, rd, fr⟩ := yl x H2 hy
            simp only [e2] at p
            have R2 := R.fresh fr
            refine ⟨d, [], ds, Fs, rd, R2, (fun _ z => by cases z), ?_⟩
            cases e3 : g d ds with
            | none => simp only [e3] at p; exact p.elim
            | some s1 =>
              simp only [e3] at p
              intro σ3 Fs3 k3 R3 m3
              have sub3 : ∀ a, InF Fs3 a → InF Fs a := fun a z => (m3 a z).elim (fun y => by cases y) id
              have hw3 : L2.wipe σ3 vs = L2.wipe σ₀ vs := wipe_cpl (n := σ₀.length) rfl (by rw [k3.1, lenσ]) k3
              refine ⟨hw3, ?_⟩
              obtain ⟨a0, vsA, G0, ea, hDl, eG, nG, rA0⟩ := rD
              cases ea
              cases eG
              -- what lies aside: F, the new list and what it holds
              have muB : ∀ a ∈ F ++ Dl :: G, ∃ o, H2 a = some o ∧ Mu o := fun a ha => by
                rcases List.mem_append.mp ha with h | h
                · obtain ⟨o, eo, mo⟩ := muF' a h
                  exact ⟨o, fr.keep a o eo, mo⟩
                · obtain ⟨o, eo, mo⟩ := muD a h
                  exact ⟨o, fr.keep a o eo, mo⟩
              have djB : ∀ a ∈ F ++ Dl :: G, ¬ InF Fs3 a := fun a ha z => (List.mem_append.mp ha).elim (fun h => djF a h (sub3 a z)) fun h => djD a h (sub3 a z)
              have stA : Step T H1 (fun x => x ∈ F ∨ InF Fs1 x) H2 (fun x => x ∈ F ++ Dl :: G ∨ InF Fs3 x) := by
                refine (st.trans ((fr.step fun a z => ?_).less (P1 := fun x => x ∈ F ∨ x ∈ Dl :: G ∨ InF Fs x) fun a z => .inr z)).less fun a z => ?_
                · rcases z with z | z | z
                  · exact muF' a z
                  · exact muD a z
                  · exact R.mu a z
                · rcases z with z | z
                  · exact (List.mem_append.mp z).imp id .inl
                  · exact .inr (.inr (sub3 a z))
              have hH2 : Hold H2 := stab H' (fun _ => False) H2 _ hH (fr.step fun _ z => z.elim) (fun _ _ z => z)
              refine ⟨s1, Fs3, R3, ?_⟩
              cases e4 : tt s1 with
              | stuck => simp only [e4] at p; exact p.elim
              | exc c w s2 => simp only [e4] at p; exact p.elim
              | ok b s2 =>
                intro b' F4 H3 Fs4 r4 R4 dj4 st4
                obtain ⟨rfl, rfl⟩ := r4
                have st4' : Step T H2 (InF Fs3) H3 (InF Fs4) := st4.less fun a z => .inr z
                have muB3 : ∀ a ∈ F ++ Dl :: G, ∃ o, H3 a = some o ∧ Mu o := fun a ha => by
                  obtain ⟨o, eo, mo⟩ := muB a ha
                  exact ⟨o, st4'.keep a o eo (djB a ha) (fun ps z => by rw [z] at mo; exact mo), mo⟩
                have djB3 := st4'.disj muB djB
                have stB : Step T H1 (fun x => x ∈ F ∨ InF Fs1 x) H3 (fun x => x ∈ F ++ Dl :: G ∨ InF Fs4 x) := stA.trans (st4'.frame muB)
                have hH3 : Hold H3 := stab H2 _ H3 _ hH2 st4' fun a ha => djB a (List.mem_append_left _ ha)
                have rAcc3 : reps X.K H3 acc vsA G := reps_step st4' acc vsA G (fr.kreps rA0) fun a ha => djB a (List.mem_append_right _ (List.mem_cons_of_mem _ ha))
                have hDl3 : H3 Dl = some (.lst vsA) := st4'.keep Dl _ (fr.keep Dl _ hDl) (djB Dl (List.mem_append_right _ List.mem_cons_self)) (fun ps z => by cases z)
                cases b with
                | false =>
                  simp only [e4] at p
                  rw [if_neg (by decide)]
                  have R5 := R4.wipe vs
                  rw [hw3] at R5
                  refine ⟨_, _, acc, G, R5, hH3, fun a ha z => djB3 a (List.mem_append_left _ ha) (wipe_sub a z), fun a ha => muB3 a (List.mem_append_left _ ha), ⟨Dl, vsA, G, rfl, hDl3, rfl, nG, rAcc3⟩, fun a ha z => djB3 a (List.mem_append_right _ ha) (wipe_sub a z), djDF, stB.less fun a z => ?_, p⟩
                  rcases z with z | z | z
                  · exact .inl (List.mem_append_left _ z)
                  · exact .inl (List.mem_append_right _ z)
                  · exact .inr (wipe_sub a z)
                | true =>
                  simp only [e4] at p
                  rw [if_pos rfl]
                  refine ⟨s2, Fs4, R4, ?_⟩
                  unfold mBind at p
                  cases e5 : te s2 with
                  | stuck => simp only [e5] at p; exact p.elim
                  | exc c w s3 => simp only [e5] at p; exact p.elim
                  | ok o s3 =>
                    simp only [e5] at p
                    intro y F5 H4 Fs5 r5 R5 dj5 st5
                    cases e6 : toOwn o s3 with
                    | stuck => simp only [e6] at p; exact p.elim
                    | exc c w s4 => simp only [e6] at p; exact p.elim
                    | ok d4 s4 =>
                      simp only [e6] at p
                      obtain ⟨F6, Fs6, r6, R6, dj6, sub6, subF6⟩ := toOwn_ok r5 R5 dj5 e6
                      by_cases hz : acc.length < sizeLine
                      · simp only [if_pos hz] at p
                        have st6 : Step T H3 (InF Fs4) H4 (fun x => x ∈ F6 ∨ InF Fs6 x) := st5.less fun a z => z.elim (sub6 a) fun w => .inr (subF6 a w)
                        have djB4 := st6.disj muB3 djB3
                        have hDl4 : H4 Dl = some (.lst vsA) := st6.keep Dl _ hDl3 (djB3 Dl (List.mem_append_right _ List.mem_cons_self)) (fun ps z => by cases z)
                        have rAcc4 : reps X.K H4 acc vsA G := reps_step st6 acc vsA G rAcc3 fun a ha => djB3 a (List.mem_append_right _ (List.mem_cons_of_mem _ ha))
                        have stC : Step T H1 (fun x => x ∈ F ∨ InF Fs1 x) H4 (fun x => x ∈ F ++ Dl :: G ∨ (x ∈ F6 ∨ InF Fs6 x)) := stB.trans (st6.frame muB3)
                        have muC : ∀ a, (a ∈ F ++ Dl :: G ∨ (a ∈ F6 ∨ InF Fs6 a)) → ∃ o, H4 a = some o ∧ Mu o := fun a z => by
                          rcases z with z | z | z
                          · obtain ⟨o, eo, mo⟩ := muB3 a z
                            exact ⟨o, st6.keep a o eo (djB3 a z) (fun ps w => by rw [w] at mo; exact mo), mo⟩
                          · exact rep_mu d4 y F6 r6 a z
                          · exact R6.mu a z
                        have sl := step_lst (T := T) (vs' := vsA ++ [y]) hDl4
                        have nDl6 : Dl ∉ F6 := fun z => djB4 Dl (List.mem_append_right _ List.mem_cons_self) (.inl z)
                        have dGF : ∀ a ∈ G, a ∉ F6 := fun a ha z => djB4 a (List.mem_append_right _ (List.mem_cons_of_mem _ ha)) (.inl z)
                        have R7 := (R6.step sl fun a z w => djB4 Dl (List.mem_append_right _ List.mem_cons_self) (.inr (by rw [← w]; exact z))).wipe vs
                        rw [hw3] at R7
                        have nFD : Dl ∉ F := djDF Dl List.mem_cons_self
                        refine ⟨vsA, hDl4, by rw [reps_length rAcc4]; exact hz, _, _, acc ++ [d4], G ++ F6, R7, stab H4 _ _ _ (stab H3 _ H4 _ hH3 st6 fun a ha => djB3 a (List.mem_append_left _ ha)) sl (fun a ha w => nFD (by rw [← w]; exact ha)),
                          fun a ha z => djB4 a (List.mem_append_left _ ha) (.inr (wipe_sub a z)), fun a ha => ?_, ⟨Dl, vsA ++ [y], G ++ F6, rfl, upd_same, rfl, fun z => (List.mem_append.mp z).elim nG nDl6, ?_⟩, fun a ha z => ?_, fun a ha z => ?_, ?_, p⟩
                        · obtain ⟨o, eo, mo⟩ := muC a (.inl (List.mem_append_left _ ha))
                          exact ⟨o, by rw [upd_ne (fun w => nFD (by rw [← w]; exact ha))]; exact eo, mo⟩
                        · refine reps_step sl _ _ _ (reps_app rAcc4 (reps_one r6) dGF) fun a ha w => ?_
                          rw [w] at ha
                          exact (List.mem_append.mp ha).elim nG nDl6
                        · rcases List.mem_cons.mp ha with h | h
                          · exact djB4 a (List.mem_append_right _ (by rw [h]; exact List.mem_cons_self)) (.inr (wipe_sub a z))
                          · rcases List.mem_append.mp h with h | h
                            · exact djB4 a (List.mem_append_right _ (List.mem_cons_of_mem _ h)) (.inr (wipe_sub a z))
                            · exact dj6 a h (wipe_sub a z)
                        · rcases List.mem_cons.mp ha with h | h
                          · exact nFD (by rw [← h]; exact z)
                          · rcases List.mem_append.mp h with h | h
                            · exact djDF a (List.mem_cons_of_mem _ h) z
                            · exact djB4 a (List.mem_append_left _ z) (.inl h)
                        · have sf := (sl.framep (A := fun x => x ∈ F ++ Dl :: G ∨ (x ∈ F6 ∨ InF Fs6 x)) muC).weak (P1 := fun x => x ∈ F ++ Dl :: G ∨ (x ∈ F6 ∨ InF Fs6 x)) (fun a z => z.elim id fun w => .inl (List.mem_append_right _ (by rw [w]; exact List.mem_cons_self))) muC
                          refine (stC.trans sf).less fun a z => .inl ?_
                          rcases z with z | z | z
                          · exact .inl (List.mem_append_left _ z)
                          · rcases List.mem_cons.mp z with w | w
                            · exact .inl (List.mem_append_right _ (by rw [w]; exact List.mem_cons_self))
                            · rcases List.mem_append.mp w with w | w
                              · exact .inl (List.mem_append_right _ (List.mem_cons_of_mem _ w))
                              · exact .inr (.inl w)
                          · exact .inr (.inr (wipe_sub a z))
                      · simp only [if_neg hz] at p; exact p.elim
          · rw [if_neg hl] at p; exact p.elim
end
end TQ
set_option maxHeartbeats 4000000
namespace TQ
open PySem PySem.Spec PyProof.Rows L2
section
variable {T : List (Addr × Str)} {X : Cx} {W : WX} {H H1 H' : Hp} {P P1 P' : Addr → Prop} {σ : Sg} {kp js : List Nat}
theorem so_lc {n : Nat} {elt tg iter : Expr} {ifs : List Expr} {scope : Scope} {own : List (Str × Nat)} {pos : Pos} {mi : M ItS} {g : Tg} {tt : M Bool} {te : M Opd} (hc : X.calm = true) (hN : X.N.Nodup) (hn : X.N.length = n) (hi : SI T X W js tg iter mi) (ok : BlkOk X.N X.env.scope scope own) (hjs : ∀ j ∈ js, j ∉ own.map (·.2))
    (hg : ∀ (s : Shared) (H : Hp) (C : Addr) (cl : List (Str × Addr)) (fp : List Addr), SG T (X.blk s H scope (compEnvC scope cl C X.env) fp) (cpl n (own.map (·.2))) tg g)
    (ht : ∀ (s : Shared) (H : Hp) (C : Addr) (cl : List (Str × Addr)) (fp : List Addr), STs T (X.blk s H scope (compEnvC scope cl C X.env) fp) W0 ifs tt)
    (he : ∀ (s : Shared) (H : Hp) (C : Addr) (cl : List (Str × Addr)) (fp : List Addr), SO T (X.blk s H scope (compEnvC scope cl C X.env) fp) W0 elt te) (hs : ∀ x, foldedSetIterable iter X.env x = pure x := by intro _; rfl) :
    SO T X W (.ListComp elt [⟨tg, iter, ifs, 0⟩] scope pos) (mLc mi g tt te (own.map (·.2))) := by
  refine ⟨⟨fun pins s σ H Q I q => (pe_lc (g := tG T X (cpl n (own.map fun (p : Str × Nat) => p.2)) g) (tt := tT T X W0 tt) (te := tO T X W0 te) hc hN hi.run ok (fun s H C cl fp => PG.imp (hg s H C cl fp).run fun _ _ _ _ h => h) (fun s H C cl fp => PTs.imp (ht s H C cl fp).run fun _ _ _ h => h)
    (fun s H C cl fp => PE.imp (he s H C cl fp).run fun _ _ _ h => h) hs).run pins s σ H Q I ?_⟩⟩
  have h := tLc_of hjs q
  rw [I.len, hn] at h
  exact h
theorem ss_setLc (i : Nat) {n : Nat} {y : Str} {py : Pos} {elt tg iter : Expr} {ifs : List Expr} {scope : Scope} {own : List (Str × Nat)} {pos spos : Pos} {mi : M ItS} {g : Tg} {tt : M Bool} {te : M Opd} (hc : X.calm = true) (hN : X.N.Nodup) (hn : X.N.length = n) (hy : X.N[i]? = some y) (hyl : X.env.scope.names.lookup y = some .local)
    (hsw : swapsWith (.ListComp elt [⟨tg, iter, ifs, 0⟩] scope pos) (some (.Name y py)) spos.line X.env = pure true) (hi : SI T X W js tg iter mi) (ok : BlkOk X.N X.env.scope scope own) (hjs : ∀ j ∈ js, j ∉ own.map (·.2))
    (hg : ∀ (s : Shared) (H : Hp) (C : Addr) (cl : List (Str × Addr)) (fp : List Addr), SG T (X.blk s H scope (compEnvC scope cl C X.env) fp) (cpl n (own.map (·.2))) tg g)
    (ht : ∀ (s : Shared) (H : Hp) (C : Addr) (cl : List (Str × Addr)) (fp : List Addr), STs T (X.blk s H scope (compEnvC scope cl C X.env) fp) W0 ifs tt)
    (he : ∀ (s : Shared) (H : Hp) (C : Addr) (cl : List (Str × Addr)) (fp : List Addr), SO T (X.blk s H scope (compEnvC scope cl C X.env) fp) W0 elt te) (hk : i ∉ kp := by decide) (hs : ∀ x, foldedSetIterable iter X.env x = pure x := by intro _; rfl) :
    SS T X W kp (.Assign [.Name y py] (.ListComp elt [⟨tg, iter, ifs, 0⟩] scope pos) spos) (sSet i (mLc mi g tt te (own.map (·.2)))) := by
  refine ⟨⟨fun pins s σ H Dn I q => (ps_setLc (g := tG T X (cpl n (own.map fun (p : Str × Nat) => p.2)) g) (tt := tT T X W0 tt) (te := tO T X W0 te) hc hN hy hyl hsw hi.run ok (fun s H C cl fp => PG.imp (hg s H C cl fp).run fun _ _ _ _ h => h) (fun s H C cl fp => PTs.imp (ht s H C cl fp).run fun _ _ _ h => h)
    (fun s H C cl fp => PE.imp (he s H C cl fp).run fun _ _ _ h => h) hs).run pins s σ H Dn I ?_⟩⟩
  show tLc _ _ _ _ _ σ H (fun x H1 => Dn.nx (σ.set i (some x)) H1)
  have h : tO T X W (mLc mi g tt te (own.map (·.2))) σ H (fun x H1 => Dn.nx (σ.set i (some x)) H1) := tS_bind q fun o ds1 v F H1 Fs1 r R1 dj p => toOwn_post r R1 dj p fun d ds2 F2 Fs2 r2 R2 dj2 p2 => by
    by_cases hl : i < ds2.length
    · rw [if_pos hl] at p2
      exact p2 _ H1 _ (Kp.set hk) (R2.put r2 dj2 hl) ((Step.refl fun a z => z.elim (rep_mu d v F2 r2 a) (R2.mu a)).less fun a z => put_sub a z)
    · rw [if_neg hl] at p2; exact p2.elim
  have h2 := tLc_of hjs h
  rw [I.len, hn] at h2
  exact h2
theorem Vw.two {K : PySem.W.Frag} {a b : D} {vs : List V} (h : Vw K H [a, b] vs) : ∃ v u F G, vs = [v, u] ∧ rep K H a v F ∧ rep K H b u G := by
  obtain ⟨v, us, F, rfl, r1, u, us', G, rfl, r2, e⟩ := h
  have e : us' = [] := e
  subst e
  exact ⟨v, u, F, G, rfl, r1, r2⟩
theorem Vw.one {K : PySem.W.Frag} {a : D} {vs : List V} (h : Vw K H [a] vs) : ∃ v F, vs = [v] ∧ rep K H a v F := by
  obtain ⟨v, us, F, rfl, r1, e⟩ := h
  have e : us = [] := e
  subst e
  exact ⟨v, F, rfl, r1⟩
/-! ### what may be walked -/
def fixedI (l : List D) : ItS := fun _ => some l
theorem PI.imp {tg e : Expr} {t t' : TI} (h : PI X tg e t) (hi : ∀ σ H R, t' σ H R → t σ H R) : PI X tg e t' := ⟨fun pins s σ H R I q => h.run pins s σ H R I (hi _ _ _ q)⟩
def okR (j : Int) : Bool := decide (-4611686018427387904 ≤ j ∧ j < 4611686018427387904)
theorem okR_iff {j : Int} (h : okR j = true) : -(2 ^ 62) ≤ j ∧ j < 2 ^ 62 := by
  unfold okR at h
  have := of_decide_eq_true h
  omega
def intsD (lo : Int) (n : Nat) : List D := (List.range n).map fun i => .int (lo + (i : Nat))
theorem intsD_get {lo : Int} {n i : Nat} (h : i < n) : (intsD lo n)[i]? = some (.int (lo + (i : Nat))) := by
  unfold intsD
  rw [List.getElem?_map, List.getElem?_range h]; rfl
theorem intsD_len {lo : Int} {n : Nat} : (intsD lo n).length = n := by unfold intsD; simp
/-- range(a); range(a, b) -/
def mRange (ms : M (List Opd)) : M ItS := mBind ms fun os s => match getAll s os with
  | some [.int j] => if okR j then .ok (fixedI (intsD 0 j.toNat)) s else .stuck
  | some [.int i, .int j] => if okR i && okR j then .ok (fixedI (intsD i (j - i).toNat)) s else .stuck
  | _ => .stuck
theorem rI_range {lo : Int} {n : Nat} : rI T X js σ H (fixedI (intsD lo n)) (Itr lo n) [] := by
  refine ⟨(fun _ z => by cases z), fun _ => True, trivial, fun _ _ _ _ _ _ _ => trivial, fun i H σ' ds Fs l _ _ R _ e => ?_⟩
  cases e
  rw [intsD_len]
  exact ⟨fun hi => ⟨hi, fun x H' ⟨e1, e2⟩ => ⟨_, intsD_get hi, ⟨e2, rfl⟩, by rw [e1]; exact Fresh.refl⟩⟩, fun hi => hi⟩
theorem post_rI {α : Type} {g : ItS} {J : It} {F Fr : List Addr} {ds1 : Sd} {Fs1 : Nat → List Addr} {R : It → Hp → Prop} (R1 : SRel (gx T X) H1 σ ds1 Fs1) (mu : ∀ a ∈ F, ∃ o, H1 a = some o ∧ Mu o) (dj : ∀ x ∈ F, ¬ InF Fs1 x)
    (p : Post T X W (rI T X js) H1 (fun x => x ∈ F ∨ InF Fs1 x) σ (.ok g ds1) R) (r : rI T X js σ H1 g J Fr) (sub : ∀ a ∈ Fr, a ∈ F) : R J H1 :=
  p J Fr H1 Fs1 r R1 (fun x hx => dj x (sub x hx)) ((Step.refl fun a z => z.elim (mu a) (R1.mu a)).less fun a z => z.imp (sub a) id)
theorem si_range1 {tg a : Expr} {p pos : Pos} {ms : M (List Opd)} (hg : Gl X "range") (hm : X.mg "range" = none) (ha : SA T X W [a] ms) (hn : Len ms 1) (hs : starEach [a] X.env = [(false, eval a X.env)] := by rfl) : SI T X W js tg (.Call (.Name "range" p) [a] [] pos) (mRange ms) := by
  refine ⟨PI.imp (pi_range1 hg hm ha.run hs) fun σ H R q => ?_⟩
  have key : tA T X W ms σ H fun vs H1 => vs.length = 1 → ∃ j : Int, vs = [.int j] ∧ -(2 ^ 62) ≤ j ∧ j < 2 ^ 62 ∧ R (Itr 0 j.toNat) H1 := by
    refine tM_bind q fun os ds1 vs F H1 Fs1 r1 R1 dj p hl => ?_
    cases e : getAll ds1 os with
    | none => simp only [e] at p; exact p.elim
    | some l =>
      have vw := rA_get r1 R1 e
      simp only [e] at p
      split at p
      · rename_i j heq
        cases heq
        obtain ⟨v, F', rfl, ⟨rfl, _⟩⟩ := Vw.one vw
        by_cases ho : okR j = true
        · rw [if_pos ho] at p
          exact ⟨j, rfl, (okR_iff ho).1, (okR_iff ho).2, post_rI (α := Unit) R1 (rA_mu r1) dj p rI_range fun _ z => by cases z⟩
        · rw [if_neg ho] at p; exact p.elim
      · rename_i i j heq
        cases heq
        obtain ⟨v, u, F', G', rfl, _, _⟩ := Vw.two vw
        simp at hl
      · exact p.elim
  obtain ⟨ds2, Fs2, R2, p2⟩ := key
  refine ⟨ds2, Fs2, R2, ?_⟩
  cases e : ms ds2 with
  | exc c w s => rw [e] at p2; exact p2
  | stuck => rw [e] at p2; exact p2
  | ok os s =>
    rw [e] at p2
    intro vs F H' Fs' h1 h2 h3 h4
    exact p2 vs F H' Fs' h1 h2 h3 h4 (by rw [rA_len h1]; exact hn _ _ _ e)
theorem si_range2 {tg a b : Expr} {p pos : Pos} {ms : M (List Opd)} (hg : Gl X "range") (hm : X.mg "range" = none) (ha : SA T X W [a, b] ms) (hn : Len ms 2) (hs : starEach [a, b] X.env = [(false, eval a X.env), (false, eval b X.env)] := by rfl) (hs2 : starEach [b] X.env = [(false, eval b X.env)] := by rfl) :
    SI T X W js tg (.Call (.Name "range" p) [a, b] [] pos) (mRange ms) := by
  refine ⟨PI.imp (pi_range2 hg hm ha.run hs hs2) fun σ H R q => ?_⟩
  have key : tA T X W ms σ H fun vs H1 => vs.length = 2 → ∃ i j : Int, vs = [.int i, .int j] ∧ (-(2 ^ 62) ≤ i ∧ i < 2 ^ 62 ∧ -(2 ^ 62) ≤ j ∧ j < 2 ^ 62) ∧ R (Itr i (j - i).toNat) H1 := by
    refine tM_bind q fun os ds1 vs F H1 Fs1 r1 R1 dj p hl => ?_
    cases e : getAll ds1 os with
    | none => simp only [e] at p; exact p.elim
    | some l =>
      have vw := rA_get r1 R1 e
      simp only [e] at p
      split at p
      · rename_i j heq
        cases heq
        obtain ⟨v, F', rfl, _⟩ := Vw.one vw
        simp at hl
      · rename_i i j heq
        cases heq
        obtain ⟨v, u, F', G', rfl, ⟨rfl, _⟩, ⟨rfl, _⟩⟩ := Vw.two vw
        by_cases ho : (okR i && okR j) = true
        · rw [if_pos ho] at p
          rw [Bool.and_eq_true] at ho
          exact ⟨i, j, rfl, ⟨(okR_iff ho.1).1, (okR_iff ho.1).2, (okR_iff ho.2).1, (okR_iff ho.2).2⟩, post_rI (α := Unit) R1 (rA_mu r1) dj p rI_range fun _ z => by cases z⟩
        · rw [if_neg ho] at p; exact p.elim
      · exact p.elim
  obtain ⟨ds2, Fs2, R2, p2⟩ := key
  refine ⟨ds2, Fs2, R2, ?_⟩
  cases e : ms ds2 with
  | exc c w s => rw [e] at p2; exact p2
  | stuck => rw [e] at p2; exact p2
  | ok os s =>
    rw [e] at p2
    intro vs F H' Fs' h1 h2 h3 h4
    exact p2 vs F H' Fs' h1 h2 h3 h4 (by rw [rA_len h1]; exact hn _ _ _ e)
/-! lists and tuples -/
/-- over a list or a tuple -/
def iSeq (K : PySem.W.Frag) (tl : TE) : TI := fun σ H R => tl σ H fun x H1 => ∃ a, x = .ref a ∧ (((∃ xs, SqL K H1 a xs) ∧ R (Itl K a) H1) ∨ ((∃ xs, SqT K H1 a xs) ∧ R (Itt K a) H1))
theorem pi_seq {tg l : Expr} {tl : TE} (hl : PE X l tl) : PI X tg l (iSeq X.K tl) := by
  refine ⟨fun pins s σ H R I h => ?_⟩
  refine thn (hl.run pins s σ H _ I h) fun v s1 ⟨x, H1, I1, r1, q1⟩ => ?_
  obtain ⟨a, e, q⟩ := q1
  subst e
  cases r1
  rcases q with ⟨⟨xs, hq⟩, q⟩ | ⟨⟨xs, hq⟩, q⟩
  · obtain ⟨its, rv, p, hz⟩ := I1.list hq
    refine wpAny_pyIter_list p.isList ?_
    refine ⟨s1.heap.objs.size, [s1.heap.objs.size], _, _, H1, rfl, I1.kept (t' := s1.toks) fun b o e => Heap.get?_push_of_some _ e, turn_list a _, ⟨_, Heap.get?_push_size _ rfl, rfl, rfl⟩, fun b hb => ?_, q⟩
    have e : b = s1.heap.objs.size := by simpa using hb
    subst e
    exact I1.fpOk (Nat.le_refl _) (I1.hok.fresh (Nat.le_refl _))
  · obtain ⟨its, rv, p, hz⟩ := I1.tuple hq
    refine wpAny_pyIter_tuple p ?_
    refine ⟨s1.heap.objs.size, [s1.heap.objs.size], _, _, H1, rfl, I1.kept (t' := s1.toks) fun b o e => Heap.get?_push_of_some _ e, turn_tuple a _, ⟨_, Heap.get?_push_size _ rfl, rfl, rfl⟩, fun b hb => ?_, q⟩
    have e : b = s1.heap.objs.size := by simpa using hb
    subst e
    exact I1.fpOk (Nat.le_refl _) (I1.hok.fresh (Nat.le_refl _))
/-- the list of slot i as it stands -/
def slotI (i : Nat) : ItS := fun s => match (s[i]?).join with
  | some (.lst l) => if pureL l then some l else none
  | _ => none
/-- a value's items -/
def itOf (o : Opd) : M ItS := fun s => match o.get s with
  | some (.tup l) => if pureL l then .ok (fixedI l) s else .stuck
  | some (.frl l) => if pureL l then .ok (fixedI l) s else .stuck
  | some (.lst l) => if pureL l then .ok (match o with | .own _ => fixedI l | .nm i => slotI i) s else .stuck
  | _ => .stuck
def mIter (m : M Opd) : M ItS := mBind m itOf
theorem reps_pure_get {K : PySem.W.Frag} {ds : List D} {vs : List V} {F : List Addr} {i : Nat} {x : V} (h : reps K H ds vs F) (p : pureL ds = true) (e : vs[i]? = some x) : ∃ d, ds[i]? = some d ∧ rep K H d x [] := by
  have hl := reps_length h
  have hi : i < vs.length := (List.getElem?_eq_some_iff.mp e).1
  obtain ⟨v, F1, e1, r, _⟩ := reps_get h (List.getElem?_eq_getElem (show i < ds.length by omega))
  rw [e] at e1; cases e1
  exact ⟨_, List.getElem?_eq_getElem (show i < ds.length by omega), rep_pure0 (pureL_mem p (List.getElem_mem _)) r⟩
/-- the names that are walked: a name's own -/
def slotOf : M Opd → List Nat → Prop := fun m js => ∀ s i s', m s = .ok (.nm i) s' → i ∈ js
theorem slot_nm {i : Nat} : slotOf (mNm i) [i] := fun s j s' h => by
  unfold mNm at h
  split at h
  · cases h; exact List.mem_cons_self
  · cases h
theorem seq_walk {a : Addr} {vs : List V} {l : List D} {F : List Addr} {o : Opd} (muF : ∀ b ∈ F, ∃ u, H b = some u ∧ Mu u) (ho : rO X σ H o (.ref a) F) {ds : Sd} {Fs : Nat → List Addr} (R : SRel (gx T X) H σ ds Fs) (hjs : ∀ i, o = .nm i → i ∈ js) {g : ItS} (h : itOf o ds = .ok g ds) :
    ((∃ xs, SqL X.K H a xs) ∧ rI T X js σ H g (Itl X.K a) F) ∨ ((∃ xs, SqT X.K H a xs) ∧ rI T X js σ H g (Itt X.K a) F) := by
  unfold itOf at h
  cases e : o.get ds with
  | none => simp only [e] at h; cases h
  | some d =>
    obtain ⟨F', rd, sub⟩ := rO_get ho R e
    cases d with
    | tup l =>
      simp only [e] at h
      by_cases hp : pureL l = true
      · rw [if_pos hp] at h
        cases h
        obtain ⟨a', vs, ea, hT, rr⟩ := rd
        cases ea
        have rr := reps_pure l vs F' hp rr ▸ rr
        refine .inr ⟨⟨vs, hT⟩, muF, fun H => SqT X.K H a vs ∧ reps X.K H l vs [], ⟨hT, rr⟩, fun H P H' P' h st _ => ⟨st.tup h.1, reps_step st l vs [] h.2 fun _ z => by cases z⟩, fun i H σ' ds Fs l' h _ _ _ el => ?_⟩
        cases el
        have hl := reps_length h.2
        refine ⟨fun hi => ⟨⟨vs, vs[i], h.1, List.getElem?_eq_getElem (by omega)⟩, fun x H' ⟨eH, hx⟩ => ?_⟩, fun hi => ⟨vs, h.1, by omega⟩⟩
        obtain ⟨d, e1, r1⟩ := reps_pure_get h.2 hp (hx vs h.1)
        exact ⟨d, e1, by rw [eH]; exact r1, by rw [eH]; exact Fresh.refl⟩
      · rw [if_neg hp] at h; cases h
    | frl l =>
      simp only [e] at h
      by_cases hp : pureL l = true
      · rw [if_pos hp] at h
        cases h
        obtain ⟨a', vs, ea, hT, _, rr⟩ := rd
        cases ea
        refine .inl ⟨⟨vs, hT.sq⟩, muF, fun H => FrL X.K H a vs ∧ reps X.K H l vs [], ⟨hT, rr⟩, fun H P H' P' h st _ => ⟨st.frl h.1, reps_step st l vs [] h.2 fun _ z => by cases z⟩, fun i H σ' ds Fs l' h _ _ _ el => ?_⟩
        cases el
        have hl := reps_length h.2
        refine ⟨fun hi => ⟨⟨vs, vs[i], h.1.sq, List.getElem?_eq_getElem (by omega)⟩, fun x H' ⟨eH, hx⟩ => ?_⟩, fun hi => ⟨vs, h.1.sq, by omega⟩⟩
        obtain ⟨d, e1, r1⟩ := reps_pure_get h.2 hp (hx vs h.1.sq)
        exact ⟨d, e1, by rw [eH]; exact r1, by rw [eH]; exact Fresh.refl⟩
      · rw [if_neg hp] at h; cases h
    | lst l =>
      simp only [e] at h
      by_cases hp : pureL l = true
      · rw [if_pos hp] at h
        obtain ⟨a', vs, G, ea, hL, eF, nG, rr⟩ := rd
        cases ea
        have eG := reps_pure l vs G hp rr
        subst eG
        cases o with
        | own d0 =>
          cases h
          have ed : d0 = .lst l := Option.some.inj e
          subst ed
          obtain ⟨a2, vs2, G2, ea2, hL2, eF2, nG2, rr2⟩ := ho
          cases ea2
          refine .inl ⟨⟨vs, SqL.of hL⟩, muF, fun H => H a = some (.lst vs) ∧ reps X.K H l vs [], ⟨hL, rr⟩, fun H P H' P' h st n => ⟨st.keep a _ h.1 (n a (by rw [eF2]; exact List.mem_cons_self)) (fun ps z => by cases z), reps_step st l vs [] h.2 fun _ z => by cases z⟩, fun i H σ' ds Fs l' h _ _ _ el => ?_⟩
          cases el
          have hl := reps_length h.2
          refine ⟨fun hi => ⟨⟨vs, vs[i], SqL.of h.1, List.getElem?_eq_getElem (by omega)⟩, fun x H' ⟨eH, hx⟩ => ?_⟩, fun hi => ⟨vs, SqL.of h.1, by omega⟩⟩
          obtain ⟨d, e1, r1⟩ := reps_pure_get h.2 hp (hx vs (SqL.of h.1))
          exact ⟨d, e1, by rw [eH]; exact r1, by rw [eH]; exact Fresh.refl⟩
        | nm k =>
          cases h
          refine .inl ⟨⟨vs, SqL.of hL⟩, muF, fun _ => True, trivial, fun _ _ _ _ _ _ _ => trivial, fun i H σ' ds Fs l' h kj R' _ el => ?_⟩
          unfold slotI at el
          cases e2 : (ds[k]?).join with
          | none => simp only [e2] at el; cases el
          | some d2 =>
            cases d2 with
            | lst l2 =>
              simp only [e2] at el
              by_cases hp2 : pureL l2 = true
              · rw [if_pos hp2] at el
                cases el
                obtain ⟨b, vs', Gs, hσ, hH, hF, n, rr'⟩ := R'.lst (join_some e2)
                have hk := kj.2 k (hjs k rfl)
                rw [hk, ho.1] at hσ
                cases hσ
                have hl := reps_length rr'
                refine ⟨fun hi => ⟨⟨vs', vs'[i], SqL.of hH, List.getElem?_eq_getElem (by omega)⟩, fun x H' ⟨eH, hx⟩ => ?_⟩, fun hi => ⟨vs', SqL.of hH, by omega⟩⟩
                obtain ⟨d, e1, r1⟩ := reps_pure_get rr' hp2 (hx vs' (SqL.of hH))
                exact ⟨d, e1, by rw [eH]; exact r1, by rw [eH]; exact Fresh.refl⟩
              · rw [if_neg hp2] at el; cases el
            | _ => simp only [e2] at el; cases el
      · rw [if_neg hp] at h; cases h
    | _ => simp only [e] at h; cases h
theorem itOf_same {o : Opd} {ds ds' : Sd} {g : ItS} (h : itOf o ds = .ok g ds') : ds' = ds := by
  unfold itOf at h
  split at h <;> first | (split at h <;> cases h <;> rfl) | cases h
theorem itOf_noexc {o : Opd} {ds ds' : Sd} {c : Str} {w : D} (h : itOf o ds = .exc c w ds') : False := by
  unfold itOf at h
  split at h <;> first | (split at h <;> cases h) | cases h
theorem itOf_ref {o : Opd} {v : V} {F : List Addr} {ds : Sd} {Fs : Nat → List Addr} {g : ItS} (r : rO X σ H o v F) (R : SRel (gx T X) H σ ds Fs) (h : itOf o ds = .ok g ds) : ∃ a, v = .ref a := by
  unfold itOf at h
  cases e : o.get ds with
  | none => simp only [e] at h; cases h
  | some d =>
    obtain ⟨F', rd, _⟩ := rO_get r R e
    cases d with
    | tup l => obtain ⟨a, _, ea, _⟩ := rd; exact ⟨a, ea⟩
    | frl l => obtain ⟨a, _, ea, _⟩ := rd; exact ⟨a, ea⟩
    | lst l => obtain ⟨a, _, _, ea, _⟩ := rd; exact ⟨a, ea⟩
    | _ => simp only [e] at h; cases h
theorem si_seq {tg e : Expr} {m : M Opd} (h : SO T X W e m) (hjs : slotOf m js) : SI T X W js tg e (mIter m) := by
  refine ⟨PI.imp (pi_seq h.run) fun σ H R q => ?_⟩
  have key : tM T X W (fun σ H o v F => rO X σ H o v F ∧ ∀ i, o = .nm i → i ∈ js) m σ H fun x H1 => ∃ a, x = .ref a ∧ (((∃ xs, SqL X.K H1 a xs) ∧ R (Itl X.K a) H1) ∨ ((∃ xs, SqT X.K H1 a xs) ∧ R (Itt X.K a) H1)) := by
    refine tM_bind q fun o ds1 v F H1 Fs1 r1 R1 dj p => ?_
    cases e : itOf o ds1 with
    | stuck => rw [e] at p; exact p.elim
    | exc c w s => exact (itOf_noexc e).elim
    | ok g s =>
      have es := itOf_same e
      subst es
      rw [e] at p
      obtain ⟨a, ea⟩ := itOf_ref r1.1 R1 e
      subst ea
      refine ⟨a, rfl, ?_⟩
      rcases seq_walk (vs := []) (l := []) (rO_mu r1.1) r1.1 R1 r1.2 e with ⟨h1, h2⟩ | ⟨h1, h2⟩
      · exact .inl ⟨h1, post_rI (α := Unit) R1 (rO_mu r1.1) dj p h2 fun _ z => z⟩
      · exact .inr ⟨h1, post_rI (α := Unit) R1 (rO_mu r1.1) dj p h2 fun _ z => z⟩
  obtain ⟨ds2, Fs2, R2, p2⟩ := key
  refine ⟨ds2, Fs2, R2, ?_⟩
  cases e : m ds2 with
  | exc c w s => rw [e] at p2; exact p2
  | stuck => rw [e] at p2; exact p2
  | ok o s =>
    rw [e] at p2
    intro v F H' Fs' h1 h2 h3 h4
    exact p2 v F H' Fs' ⟨h1, fun i ei => hjs ds2 i s (by rw [e, ei])⟩ h2 h3 h4
end
end TQ
set_option maxHeartbeats 4000000
namespace TQ
open PySem PySem.Spec PyProof.Rows L2
section
variable {T : List (Addr × Str)} {X : Cx} {W : WX} {H H1 H' : Hp} {P P1 P' : Addr → Prop} {σ : Sg} {kp js : List Nat} {K : PySem.W.Frag}
/-! ### ints -/
def fI (c : Int → Int → Bool) (g : Int → Int → D) : List D → Option D := fun l => match l with
  | [.int i, .int j] => if c i j then some (g i j) else none
  | _ => none
abbrev fI0 (g : Int → Int → D) : List D → Option D := fI (fun _ _ => true) g
theorem rn_int {C : Int → Int → Prop} {c : Int → Int → Bool} {g : Int → Int → D} {v : Int → Int → V} (hc : ∀ i j, c i j = true → C i j) (hr : ∀ H i j, rep K H (g i j) (v i j) []) : RN K (r2L (L2.rI C v)) (fI c g) := fun H vs ds d' Q vw h q => by
  unfold fI at h
  split at h
  · rename_i i j
    obtain ⟨x, y, F, G, rfl, ⟨rfl, _⟩, ⟨rfl, _⟩⟩ := Vw.two vw
    by_cases hh : c i j = true
    · rw [if_pos hh] at h
      cases h
      exact ⟨_, _, rfl, i, j, rfl, rfl, hc i j hh, q _ [] H (hr H i j) Fresh.refl⟩
    · rw [if_neg hh] at h; cases h
  · cases h
theorem rn_int0 {g : Int → Int → D} {v : Int → Int → V} (hr : ∀ H i j, rep K H (g i j) (v i j) []) : RN K (r2L (rI0 v)) (fI0 g) := fun H vs ds d' Q vw h q => by
  obtain ⟨x, y, e, i, j, e1, e2, _, q⟩ := rn_int (C := fun _ _ => True) (v := v) (fun _ _ _ => trivial) hr H vs ds d' Q vw h q
  exact ⟨x, y, e, i, j, e1, e2, q⟩
def fNeg : List D → Option D := fun l => match l with
  | [.int i] => some (.int (-i))
  | _ => none
theorem rn_neg : RN K (r1L (rU fun i => .int (-i))) fNeg := fun H vs ds d' Q vw h q => by
  unfold fNeg at h
  split at h
  · rename_i i
    obtain ⟨x, F, rfl, ⟨rfl, _⟩⟩ := Vw.one vw
    cases h
    exact ⟨_, rfl, i, rfl, q _ [] H ⟨rfl, rfl⟩ Fresh.refl⟩
  · cases h
/-- one of two rules -/
theorem RN.or {r r' : List V → Hp → VK → Prop} {f f' : List D → Option D} (h : RN K r f) (h' : RN K r' f') : RN K (fun xs H Q => r xs H Q ∨ r' xs H Q) (fun l => match f l with | some d => some d | none => f' l) := fun H vs ds d' Q vw e q => by
  cases e1 : f ds with
  | some d => simp only [e1] at e; cases e; exact .inl (h H vs ds d' Q vw e1 q)
  | none => simp only [e1] at e; exact .inr (h' H vs ds d' Q vw e q)
theorem r2L_or {r r' : R2} : ∀ vs H Q, (r2L r vs H Q ∨ r2L r' vs H Q) → r2L (fun x y H Q => r x y H Q ∨ r' x y H Q) vs H Q := fun vs H Q h => by
  rcases h with ⟨x, y, e, h⟩ | ⟨x, y, e, h⟩
  · exact ⟨x, y, e, .inl h⟩
  · exact ⟨x, y, e, .inr h⟩
/-! ### + -/
def smallB (n : Nat) : Bool := decide (n ≤ sizeLine)
def fAdd : List D → Option D := fun l => match l with
  | [.int i, .int j] => some (.int (i + j))
  | [.str a, .str b] => if smallB (a.length + b.length) then some (.str (a ++ b)) else none
  | [.tup a, .tup b] => if pureL a && pureL b && smallB (a.length + b.length) then some (.tup (a ++ b)) else none
  | [.lst a, .lst b] => if pureL a && pureL b && smallB (a.length + b.length) then some (.lst (a ++ b)) else none
  | _ => none
def rAddA (K : PySem.W.Frag) : R2 := fun x y H Q => rI0 (fun i j => .int (i + j)) x y H Q ∨ (∃ i j, x = .str i ∧ y = .str j ∧ i.length + j.length ≤ sizeLine ∧ Q (.str (i ++ j)) H) ∨ rCatA K x y H Q ∨ rCat x y H Q
theorem op_addA : OpR X (binaryOp .Add) (rAddA X.K) := OpR.or op_add (OpR.or op_add_str (OpR.or op_catA op_cat))
theorem smallB_iff {n : Nat} (h : smallB n = true) : n ≤ sizeLine := of_decide_eq_true h
theorem reps_nil_app {K : PySem.W.Frag} {H : Hp} {a b : List D} {vs us : List V} (h : reps K H a vs []) (h' : reps K H b us []) : reps K H (a ++ b) (vs ++ us) [] := by
  have := reps_app h h' (fun _ z => by cases z)
  simpa using this
theorem rn_add : RN K (r2L (rAddA K)) fAdd := fun H vs ds d' Q vw h q => by
  unfold fAdd at h
  split at h
  · obtain ⟨x, y, F, G, rfl, ⟨rfl, _⟩, ⟨rfl, _⟩⟩ := Vw.two vw
    cases h
    exact ⟨_, _, rfl, .inl ⟨_, _, rfl, rfl, q _ [] H ⟨rfl, rfl⟩ Fresh.refl⟩⟩
  · obtain ⟨x, y, F, G, rfl, ⟨rfl, _⟩, ⟨rfl, _⟩⟩ := Vw.two vw
    split at h
    · rename_i hz
      cases h
      exact ⟨_, _, rfl, .inr (.inl ⟨_, _, rfl, rfl, smallB_iff hz, q _ [] H ⟨rfl, rfl⟩ Fresh.refl⟩)⟩
    · cases h
  · rename_i a b
    obtain ⟨x, y, F, G, rfl, ⟨p1, vs1, rfl, t1, r1⟩, ⟨p2, vs2, rfl, t2, r2⟩⟩ := Vw.two vw
    split at h
    · rename_i hz
      cases h
      simp only [Bool.and_eq_true] at hz
      have e1 := reps_pure a vs1 F hz.1.1 r1
      have e2 := reps_pure b vs2 G hz.1.2 r2
      subst e1 e2
      have l1 := reps_length r1
      have l2 := reps_length r2
      refine ⟨_, _, rfl, .inr (.inr (.inl ⟨p1, p2, vs1, vs2, rfl, rfl, t1, t2, by rw [l1, l2]; exact smallB_iff hz.2, fun e => ?_, fun _ e => ?_, fun _ _ p hp => ?_⟩))⟩
      · subst e
        have : a = [] := List.length_eq_zero_iff.mp l1.symm
        subst this
        exact q _ [] H ⟨p2, vs2, rfl, t2, r2⟩ Fresh.refl
      · subst e
        have : b = [] := List.length_eq_zero_iff.mp l2.symm
        subst this
        exact q _ [] H ⟨p1, vs1, rfl, t1, by rw [List.append_nil]; exact r1⟩ Fresh.refl
      · exact q _ [] _ ⟨p, vs1 ++ vs2, rfl, SqT.of upd_same, (Fresh.at0 hp).kreps (reps_nil_app r1 r2)⟩ (Fresh.at0 hp)
    · cases h
  · rename_i a b
    obtain ⟨x, y, F, G, rfl, ⟨p1, vs1, G1, rfl, t1, rfl, n1, r1⟩, ⟨p2, vs2, G2, rfl, t2, rfl, n2, r2⟩⟩ := Vw.two vw
    split at h
    · rename_i hz
      cases h
      simp only [Bool.and_eq_true] at hz
      have e1 := reps_pure a vs1 G1 hz.1.1 r1
      have e2 := reps_pure b vs2 G2 hz.1.2 r2
      subst e1 e2
      have l1 := reps_length r1
      have l2 := reps_length r2
      refine ⟨_, _, rfl, .inr (.inr (.inr ⟨p1, p2, vs1, vs2, rfl, rfl, t1, t2, by rw [l1, l2]; exact smallB_iff hz.2, fun p hp => ?_⟩))⟩
      exact q _ [p] _ ⟨p, vs1 ++ vs2, [], rfl, upd_same, rfl, by simp, (Fresh.at0 hp).kreps (reps_nil_app r1 r2)⟩ (Fresh.at1 hp)
    · cases h
  · cases h
/-! ### * -/
def mulB (i j : Int) : Bool := decide (-18446744073709551616 < i ∧ i < 18446744073709551616) || decide (-18446744073709551616 < j ∧ j < 18446744073709551616)
def bigB (i : Int) : Bool := decide (i.natAbs < 2 ^ 4000)
theorem mulB_iff {i j : Int} (h : mulB i j = true) : CMul i j := by
  unfold mulB at h
  rw [Bool.or_eq_true] at h
  rcases h with h | h
  · have := of_decide_eq_true h
    exact .inl (by omega)
  · have := of_decide_eq_true h
    exact .inr (by omega)
/-! ### equality -/
mutual
def D.py : D → PyData
  | .non => .none
  | .bl b => .bool b
  | .int i => .int i
  | .str x => .str x
  | .tup l => .tuple (pyL l)
  | .lst l => .list (pyL l)
  | .frl l => .list (pyL l)
  | .opq _ => .none
def pyL : List D → List PyData
  | [] => []
  | d :: l => d.py :: pyL l
end
mutual
/-- data through and through, texts of right signs -/
def D.okd : D → Bool
  | .str x => PyData.strOk x
  | .tup l => okdL l
  | .lst l => okdL l
  | .frl l => okdL l
  | .opq _ => false
  | _ => true
def okdL : List D → Bool
  | [] => true
  | d :: l => d.okd && okdL l
end
mutual
def D.dep : D → Nat
  | .tup l => depL l + 1
  | .lst l => depL l + 1
  | .frl l => depL l + 1
  | _ => 0
def depL : List D → Nat
  | [] => 0
  | d :: l => max d.dep (depL l)
end
mutual
theorem dp_of : ∀ (d : D) (v : V) (F : List Addr), d.okd = true → rep K H d v F → Dp K H v d.py
  | .non, _, _, _, h => by rw [h.1]; exact .non
  | .bl _, _, _, _, h => by rw [h.1]; exact .bl _
  | .int _, _, _, _, h => by rw [h.1]; exact .int _
  | .str _, _, _, _, h => by rw [h.1]; exact .str _
  | .opq _, _, _, o, _ => by simp [D.okd] at o
  | .tup l, v, F, o, h => by
    obtain ⟨a, vs, rfl, t, r⟩ := h
    exact .tup t (dpAll_of l vs F (by simpa [D.okd] using o) r)
  | .lst l, v, F, o, h => by
    obtain ⟨a, vs, G, rfl, t, _, _, r⟩ := h
    exact .lst (SqL.of t) (dpAll_of l vs G (by simpa [D.okd] using o) r)
  | .frl l, v, F, o, h => by
    obtain ⟨a, vs, rfl, t, _, r⟩ := h
    exact .lst t.sq (dpAll_of l vs [] (by simpa [D.okd] using o) r)
theorem dpAll_of : ∀ (l : List D) (vs : List V) (F : List Addr), okdL l = true → reps K H l vs F → DpAll K H vs (pyL l)
  | [], _, _, _, h => by rw [h.1]; exact .nil
  | d :: l, _, _, o, h => by
    obtain ⟨v, us, F1, F2, rfl, _, _, r1, r2⟩ := h
    rw [okdL, Bool.and_eq_true] at o
    exact .cons (dp_of d v F1 o.1 r1) (dpAll_of l us F2 o.2 r2)
end
mutual
theorem py_lay : ∀ d : D, d.okd = true → d.py.canLay0 = true
  | .non, _ => rfl
  | .bl _, _ => rfl
  | .int _, _ => rfl
  | .str x, h => by simpa [D.okd, D.py, PyData.canLay0] using h
  | .opq _, h => by simp [D.okd] at h
  | .tup l, h => by simpa [D.py, PyData.canLay0] using pyL_lay l (by simpa [D.okd] using h)
  | .lst l, h => by simpa [D.py, PyData.canLay0] using pyL_lay l (by simpa [D.okd] using h)
  | .frl l, h => by simpa [D.py, PyData.canLay0] using pyL_lay l (by simpa [D.okd] using h)
theorem pyL_lay : ∀ l : List D, okdL l = true → PyData.canLayAll0 (pyL l) = true
  | [], _ => rfl
  | d :: l, h => by
    rw [okdL, Bool.and_eq_true] at h
    rw [pyL, PyData.canLayAll0, Bool.and_eq_true]
    exact ⟨py_lay d h.1, pyL_lay l h.2⟩
end
mutual
theorem py_dep : ∀ d : D, d.py.depth = d.dep
  | .non => rfl
  | .bl _ => rfl
  | .int _ => rfl
  | .str _ => rfl
  | .opq _ => rfl
  | .tup l => by simp [D.py, D.dep, PyData.depth, pyL_dep l]
  | .lst l => by simp [D.py, D.dep, PyData.depth, pyL_dep l]
  | .frl l => by simp [D.py, D.dep, PyData.depth, pyL_dep l]
theorem pyL_dep : ∀ l : List D, PyData.depthAll (pyL l) = depL l
  | [] => rfl
  | d :: l => by simp [pyL, depL, PyData.depthAll, py_dep d, pyL_dep l]
end
def eqOk (d : D) : Bool := d.okd && decide (d.dep ≤ 64)
theorem eqOk_shaped {d : D} (h : eqOk d = true) : SeqAt.shaped d.py = true := by
  unfold eqOk at h
  rw [Bool.and_eq_true] at h
  unfold SeqAt.shaped
  rw [Bool.and_eq_true, py_dep]
  exact ⟨py_lay d h.1, h.2⟩
def fEq : List D → Option D := fun l => match l with
  | [a, b] => if eqOk a && eqOk b then some (.bl (PyData.eqv a.py b.py)) else none
  | _ => none
def fNe : List D → Option D := fun l => match l with
  | [a, b] => if eqOk a && eqOk b then some (.bl (!PyData.eqv a.py b.py)) else none
  | _ => none
theorem rn_eq : RN K (r2L (rEqD K)) fEq := fun H vs ds d' Q vw h q => by
  unfold fEq at h
  split at h
  · rename_i a b
    obtain ⟨x, y, F, G, rfl, r1, r2⟩ := Vw.two vw
    split at h
    · rename_i hz
      rw [Bool.and_eq_true] at hz
      cases h
      have o1 := hz.1
      have o2 := hz.2
      unfold eqOk at o1 o2
      rw [Bool.and_eq_true] at o1 o2
      exact ⟨x, y, rfl, a.py, b.py, dp_of a x F o1.1 r1, dp_of b y G o2.1 r2, eqOk_shaped hz.1, eqOk_shaped hz.2, q _ [] H ⟨rfl, rfl⟩ Fresh.refl⟩
    · cases h
  · cases h
theorem rn_ne : RN K (r2L (rNeD K)) fNe := fun H vs ds d' Q vw h q => by
  unfold fNe at h
  split at h
  · rename_i a b
    obtain ⟨x, y, F, G, rfl, r1, r2⟩ := Vw.two vw
    split at h
    · rename_i hz
      rw [Bool.and_eq_true] at hz
      cases h
      have o1 := hz.1
      have o2 := hz.2
      unfold eqOk at o1 o2
      rw [Bool.and_eq_true] at o1 o2
      exact ⟨x, y, rfl, a.py, b.py, dp_of a x F o1.1 r1, dp_of b y G o2.1 r2, eqOk_shaped hz.1, eqOk_shaped hz.2, q _ [] H ⟨rfl, rfl⟩ Fresh.refl⟩
    · cases h
  · cases h
/-- is None -/
def D.isNon : D → Bool
  | .non => true
  | _ => false
theorem isNon_iff {d : D} {v : V} {F : List Addr} (r : rep K H d v F) (h : d.okd = true) : d.isNon = decide (v = .non) := by
  cases d with
  | non => rw [r.1]; simp [D.isNon]
  | bl _ => rw [r.1]; simp [D.isNon]
  | int _ => rw [r.1]; simp [D.isNon]
  | str _ => rw [r.1]; simp [D.isNon]
  | opq _ => simp [D.okd] at h
  | tup _ => obtain ⟨_, _, e, _⟩ := r; rw [e]; simp [D.isNon]
  | lst _ => obtain ⟨_, _, _, e, _⟩ := r; rw [e]; simp [D.isNon]
  | frl _ => obtain ⟨_, _, e, _⟩ := r; rw [e]; simp [D.isNon]
def D.noOpq : D → Bool
  | .opq _ => false
  | _ => true
theorem isNon_iff' {d : D} {v : V} {F : List Addr} (r : rep K H d v F) (h : d.noOpq = true) : d.isNon = decide (v = .non) := by
  cases d with
  | non => rw [r.1]; simp [D.isNon]
  | bl _ => rw [r.1]; simp [D.isNon]
  | int _ => rw [r.1]; simp [D.isNon]
  | str _ => rw [r.1]; simp [D.isNon]
  | opq _ => simp [D.noOpq] at h
  | tup _ => obtain ⟨_, _, e, _⟩ := r; rw [e]; simp [D.isNon]
  | lst _ => obtain ⟨_, _, _, e, _⟩ := r; rw [e]; simp [D.isNon]
  | frl _ => obtain ⟨_, _, e, _⟩ := r; rw [e]; simp [D.isNon]
def fIs (neg : Bool) : List D → Option D := fun l => match l with
  | [d, .non] => if d.noOpq then some (.bl (if neg then !d.isNon else d.isNon)) else none
  | _ => none
theorem rn_is : RN K (r2L fun x y H Q => y = .non ∧ Q (.bl (decide (x = .non))) H) (fIs false) := fun H vs ds d' Q vw h q => by
  unfold fIs at h
  split at h
  · rename_i d
    obtain ⟨x, y, F, G, rfl, r1, ⟨rfl, _⟩⟩ := Vw.two vw
    split at h
    · rename_i hz
      cases h
      exact ⟨x, _, rfl, rfl, q _ [] H ⟨by rw [← isNon_iff' r1 hz]; rfl, rfl⟩ Fresh.refl⟩
    · cases h
  · cases h
theorem rn_isnot : RN K (r2L fun x y H Q => y = .non ∧ Q (.bl (!decide (x = .non))) H) (fIs true) := fun H vs ds d' Q vw h q => by
  unfold fIs at h
  split at h
  · rename_i d
    obtain ⟨x, y, F, G, rfl, r1, ⟨rfl, _⟩⟩ := Vw.two vw
    split at h
    · rename_i hz
      cases h
      exact ⟨x, _, rfl, rfl, q _ [] H ⟨by rw [← isNon_iff' r1 hz]; rfl, rfl⟩ Fresh.refl⟩
    · cases h
  · cases h
/-! ### subscripts -/
def fIx : List D → Option D := fun l => match l with
  | [.tup l, .int i] => (match atI l i with | some d => if d.pure then some d else none | none => none)
  | [.lst l, .int i] => (match atI l i with | some d => if d.pure then some d else none | none => none)
  | [.frl l, .int i] => (match atI l i with | some d => if d.pure then some d else none | none => none)
  | [.str x, .int i] => if smallB x.length then (match atI x.cps.toList i with | some c => some (.str ⟨#[c]⟩) | none => none) else none
  | _ => none
theorem reps_atI {l : List D} {vs : List V} {F : List Addr} {i : Int} {d : D} (h : reps K H l vs F) (e : atI l i = some d) : ∃ v F1, atI vs i = some v ∧ rep K H d v F1 := by
  unfold atI at e ⊢
  rw [reps_length h]
  cases e1 : ixN l.length i with
  | none => rw [e1] at e; cases e
  | some j =>
    rw [e1] at e
    obtain ⟨v, F1, e2, r, _⟩ := reps_get h (show l[j]? = some d from e)
    exact ⟨v, F1, e2, r⟩
theorem rn_ix : RN K (r2L (rIx K)) fIx := fun H vs ds d' Q vw h q => by
  unfold fIx at h
  split at h
  · rename_i l i
    obtain ⟨x, y, F, G, rfl, ⟨a, us, rfl, t, r⟩, ⟨rfl, _⟩⟩ := Vw.two vw
    split at h
    · rename_i d e
      split at h
      · rename_i hp
        cases h
        obtain ⟨v, F1, e2, r1⟩ := reps_atI r e
        exact ⟨_, _, rfl, .inr (.inl ⟨a, us, i, v, rfl, rfl, t, e2, q v [] H (rep_pure0 hp r1) Fresh.refl⟩)⟩
      · cases h
    · cases h
  · rename_i l i
    obtain ⟨x, y, F, G, rfl, ⟨a, us, G1, rfl, t, _, _, r⟩, ⟨rfl, _⟩⟩ := Vw.two vw
    split at h
    · rename_i d e
      split at h
      · rename_i hp
        cases h
        obtain ⟨v, F1, e2, r1⟩ := reps_atI r e
        exact ⟨_, _, rfl, .inl ⟨a, us, i, v, rfl, rfl, SqL.of t, e2, q v [] H (rep_pure0 hp r1) Fresh.refl⟩⟩
      · cases h
    · cases h
  · rename_i l i
    obtain ⟨x, y, F, G, rfl, ⟨a, us, rfl, t, _, r⟩, ⟨rfl, _⟩⟩ := Vw.two vw
    split at h
    · rename_i d e
      split at h
      · rename_i hp
        cases h
        obtain ⟨v, F1, e2, r1⟩ := reps_atI r e
        exact ⟨_, _, rfl, .inl ⟨a, us, i, v, rfl, rfl, t.sq, e2, q v [] H (rep_pure0 hp r1) Fresh.refl⟩⟩
      · cases h
    · cases h
  · rename_i z i
    obtain ⟨x, y, F, G, rfl, ⟨rfl, _⟩, ⟨rfl, _⟩⟩ := Vw.two vw
    split at h
    · rename_i hz
      split at h
      · rename_i c e
        cases h
        exact ⟨_, _, rfl, .inr (.inr ⟨z, i, c, rfl, rfl, smallB_iff hz, e, q _ [] H ⟨rfl, rfl⟩ Fresh.refl⟩)⟩
      · cases h
    · cases h
  · cases h
/-! ### built-ins -/
def fLen : List D → Option D := fun l => match l with
  | [.tup l] => some (.int l.length)
  | [.lst l] => some (.int l.length)
  | [.frl l] => some (.int l.length)
  | [.str x] => if smallB x.length then some (.int x.length) else none
  | _ => none
theorem rn_len : RN K (fun xs H Q => ∃ x n, xs = [x] ∧ LenV K x H n ∧ Q (.int n) H) fLen := fun H vs ds d' Q vw h q => by
  unfold fLen at h
  split at h
  · rename_i l
    obtain ⟨x, F, rfl, ⟨a, us, rfl, t, r⟩⟩ := Vw.one vw
    cases h
    exact ⟨_, l.length, rfl, .inr ⟨us, t, (reps_length r).symm⟩, q _ [] H ⟨rfl, rfl⟩ Fresh.refl⟩
  · rename_i l
    obtain ⟨x, F, rfl, ⟨a, us, G, rfl, t, _, _, r⟩⟩ := Vw.one vw
    cases h
    exact ⟨_, l.length, rfl, .inl ⟨us, SqL.of t, (reps_length r).symm⟩, q _ [] H ⟨rfl, rfl⟩ Fresh.refl⟩
  · rename_i l
    obtain ⟨x, F, rfl, ⟨a, us, rfl, t, _, r⟩⟩ := Vw.one vw
    cases h
    exact ⟨_, l.length, rfl, .inl ⟨us, t.sq, (reps_length r).symm⟩, q _ [] H ⟨rfl, rfl⟩ Fresh.refl⟩
  · rename_i x
    obtain ⟨v, F, rfl, ⟨rfl, _⟩⟩ := Vw.one vw
    split at h
    · rename_i hz
      cases h
      exact ⟨_, x.length, rfl, ⟨smallB_iff hz, rfl⟩, q _ [] H ⟨rfl, rfl⟩ Fresh.refl⟩
    · cases h
  · cases h
def fInt : List D → Option D := fun l => match l with
  | [.int i] => some (.int i)
  | [.bl k] => some (.int (if k then 1 else 0))
  | _ => none
theorem rn_toint : RN K (fun xs H Q => (∃ i, xs = [.int i] ∧ Q (.int i) H) ∨ ∃ k, xs = [.bl k] ∧ Q (.int (if k then 1 else 0)) H) fInt := fun H vs ds d' Q vw h q => by
  unfold fInt at h
  split at h
  · rename_i i
    obtain ⟨v, F, rfl, ⟨rfl, _⟩⟩ := Vw.one vw
    cases h
    exact .inl ⟨i, rfl, q _ [] H ⟨rfl, rfl⟩ Fresh.refl⟩
  · rename_i k
    obtain ⟨v, F, rfl, ⟨rfl, _⟩⟩ := Vw.one vw
    cases h
    exact .inr ⟨k, rfl, q _ [] H ⟨rfl, rfl⟩ Fresh.refl⟩
  · cases h
/-- tuple(x) of a list or a tuple of what is never written -/
def fTuple : List D → Option D := fun l => match l with
  | [.tup l] => if pureL l then some (.tup l) else none
  | [.lst l] => if pureL l then some (.tup l) else none
  | [.frl l] => if pureL l then some (.tup l) else none
  | _ => none
theorem rn_tuple : RN K (fun xs H Q => ∃ p ys, xs = [.ref p] ∧ ((SqL K H p ys ∧ ∀ l, H l = none → Q (.ref l) (upd H l (.tup ys))) ∨ (SqT K H p ys ∧ Q (.ref p) H))) fTuple := fun H vs ds d' Q vw h q => by
  unfold fTuple at h
  split at h
  · rename_i l
    obtain ⟨x, F, rfl, ⟨a, us, rfl, t, r⟩⟩ := Vw.one vw
    split at h
    · rename_i hp
      cases h
      have e := reps_pure l us F hp r
      subst e
      exact ⟨a, us, rfl, .inr ⟨t, q _ [] H ⟨a, us, rfl, t, r⟩ Fresh.refl⟩⟩
    · cases h
  · rename_i l
    obtain ⟨x, F, rfl, ⟨a, us, G, rfl, t, _, _, r⟩⟩ := Vw.one vw
    split at h
    · rename_i hp
      cases h
      have e := reps_pure l us G hp r
      subst e
      exact ⟨a, us, rfl, .inl ⟨SqL.of t, fun p hp => q _ [] _ ⟨p, us, rfl, SqT.of upd_same, (Fresh.at0 hp).kreps r⟩ (Fresh.at0 hp)⟩⟩
    · cases h
  · rename_i l
    obtain ⟨x, F, rfl, ⟨a, us, rfl, t, _, r⟩⟩ := Vw.one vw
    split at h
    · rename_i hp
      cases h
      exact ⟨a, us, rfl, .inl ⟨t.sq, fun p hp => q _ [] _ ⟨p, us, rfl, SqT.of upd_same, (Fresh.at0 hp).kreps r⟩ (Fresh.at0 hp)⟩⟩
    · cases h
  · cases h
def fList : List D → Option D := fun l => match l with
  | [.tup l] => if pureL l then some (.lst l) else none
  | [.lst l] => if pureL l then some (.lst l) else none
  | [.frl l] => if pureL l then some (.lst l) else none
  | _ => none
theorem rn_list : RN K (fun xs H Q => ∃ p ys, xs = [.ref p] ∧ (SqL K H p ys ∨ SqT K H p ys) ∧ ∀ l, H l = none → Q (.ref l) (upd H l (.lst ys))) fList := fun H vs ds d' Q vw h q => by
  unfold fList at h
  split at h
  · rename_i l
    obtain ⟨x, F, rfl, ⟨a, us, rfl, t, r⟩⟩ := Vw.one vw
    split at h
    · rename_i hp
      cases h
      have e := reps_pure l us F hp r
      subst e
      exact ⟨a, us, rfl, .inr t, fun p hp => q _ [p] _ ⟨p, us, [], rfl, upd_same, rfl, by simp, (Fresh.at0 hp).kreps r⟩ (Fresh.at1 hp)⟩
    · cases h
  · rename_i l
    obtain ⟨x, F, rfl, ⟨a, us, G, rfl, t, _, _, r⟩⟩ := Vw.one vw
    split at h
    · rename_i hp
      cases h
      have e := reps_pure l us G hp r
      subst e
      exact ⟨a, us, rfl, .inl (SqL.of t), fun p hp => q _ [p] _ ⟨p, us, [], rfl, upd_same, rfl, by simp, (Fresh.at0 hp).kreps r⟩ (Fresh.at1 hp)⟩
    · cases h
  · rename_i l
    obtain ⟨x, F, rfl, ⟨a, us, rfl, t, _, r⟩⟩ := Vw.one vw
    split at h
    · rename_i hp
      cases h
      exact ⟨a, us, rfl, .inl t.sq, fun p hp => q _ [p] _ ⟨p, us, [], rfl, upd_same, rfl, by simp, (Fresh.at0 hp).kreps r⟩ (Fresh.at1 hp)⟩
    · cases h
  · cases h
def fMax2 : List D → Option D := fun l => match l with
  | [.int i, .int j] => some (.int (if j > i then j else i))
  | _ => none
theorem rn_max2 : RN K (fun xs H Q => ∃ i j, xs = [.int i, .int j] ∧ Q (.int (if j > i then j else i)) H) fMax2 := fun H vs ds d' Q vw h q => by
  unfold fMax2 at h
  split at h
  · rename_i i j
    obtain ⟨x, y, F, G, rfl, ⟨rfl, _⟩, ⟨rfl, _⟩⟩ := Vw.two vw
    cases h
    exact ⟨i, j, rfl, q _ [] H ⟨rfl, rfl⟩ Fresh.refl⟩
  · cases h
def fMin2 : List D → Option D := fun l => match l with
  | [.int i, .int j] => some (.int (if j < i then j else i))
  | _ => none
theorem rn_min2 : RN K (fun xs H Q => ∃ i j, xs = [.int i, .int j] ∧ Q (.int (if j < i then j else i)) H) fMin2 := fun H vs ds d' Q vw h q => by
  unfold fMin2 at h
  split at h
  · rename_i i j
    obtain ⟨x, y, F, G, rfl, ⟨rfl, _⟩, ⟨rfl, _⟩⟩ := Vw.two vw
    cases h
    exact ⟨i, j, rfl, q _ [] H ⟨rfl, rfl⟩ Fresh.refl⟩
  · cases h
/-- the truths of a list -/
def bls : List D → Option (List Bool)
  | [] => some []
  | .bl b :: l => (match bls l with | some bs => some (b :: bs) | none => none)
  | _ => none
theorem bls_vals : ∀ {l : List D} {bs : List Bool} {vs : List V} {F : List Addr}, bls l = some bs → reps K H l vs F → vs = bs.map V.bl
  | [], bs, _, _, e, h => by cases e; exact h.1
  | .bl b :: l, bs, _, _, e, h => by
    obtain ⟨v, us, F1, F2, rfl, _, _, ⟨rfl, _⟩, r2⟩ := h
    unfold bls at e
    split at e
    · rename_i bs' e1
      cases e
      rw [bls_vals e1 r2]; rfl
    · cases e
  | .non :: l, _, _, _, e, _ => by cases e
  | .int _ :: l, _, _, _, e, _ => by cases e
  | .str _ :: l, _, _, _, e, _ => by cases e
  | .tup _ :: l, _, _, _, e, _ => by cases e
  | .lst _ :: l, _, _, _, e, _ => by cases e
  | .frl _ :: l, _, _, _, e, _ => by cases e
  | .opq _ :: l, _, _, _, e, _ => by cases e
def fAny : List D → Option D := fun l => match l with
  | [.lst l] => (match bls l with | some bs => some (.bl (bs.any id)) | none => none)
  | _ => none
def fAll : List D → Option D := fun l => match l with
  | [.lst l] => (match bls l with | some bs => some (.bl (bs.all id)) | none => none)
  | _ => none
theorem rn_any : RN K (rAny K) fAny := fun H vs ds d' Q vw h q => by
  unfold fAny at h
  split at h
  · rename_i l
    obtain ⟨x, F, rfl, ⟨a, us, G, rfl, t, _, _, r⟩⟩ := Vw.one vw
    split at h
    · rename_i bs e
      cases h
      exact ⟨a, bs, rfl, by rw [← bls_vals e r]; exact SqL.of t, q _ [] H ⟨rfl, rfl⟩ Fresh.refl⟩
    · cases h
  · cases h
theorem rn_all : RN K (rAll K) fAll := fun H vs ds d' Q vw h q => by
  unfold fAll at h
  split at h
  · rename_i l
    obtain ⟨x, F, rfl, ⟨a, us, G, rfl, t, _, _, r⟩⟩ := Vw.one vw
    split at h
    · rename_i bs e
      cases h
      exact ⟨a, bs, rfl, by rw [← bls_vals e r]; exact SqL.of t, q _ [] H ⟨rfl, rfl⟩ Fresh.refl⟩
    · cases h
  · cases h
/-! isinstance of a built-in class -/
def D.ty : D → Option String
  | .non => some "NoneType"
  | .bl _ => some "bool"
  | .int _ => some "int"
  | .str _ => some "str"
  | .tup _ => some "tuple"
  | .lst _ => some "list"
  | .frl _ => some "list"
  | .opq _ => none
theorem ty_of {d : D} {v : V} {F : List Addr} {t : String} (r : rep K H d v F) (h : d.ty = some t) : TyX K H v (.type t) := by
  cases d with
  | non => cases h; rw [r.1]; exact .base .non
  | bl _ => cases h; rw [r.1]; exact .base (.bl _)
  | int _ => cases h; rw [r.1]; exact .base (.int _)
  | str _ => cases h; rw [r.1]; exact .base (.str _)
  | opq _ => cases h
  | tup _ =>
    cases h
    obtain ⟨a, vs, rfl, t, _⟩ := r
    rcases t with (t | ⟨o, t⟩) | ⟨o, its, n, e, c, _⟩
    · exact .base (.tup t)
    · exact .fTuple t
    · exact .kTuple e c
  | lst _ =>
    cases h
    obtain ⟨a, vs, G, rfl, t, _⟩ := r
    exact .base (.lst t)
  | frl _ =>
    cases h
    obtain ⟨a, vs, rfl, t, _⟩ := r
    rcases t with ⟨o, t⟩ | ⟨o, its, n, e, c, _⟩
    · exact .base (.frz t)
    · exact .kList e c
/-- the built-in classes that are asked for -/
def isB (a b : String) : Bool := a == b || (a == "bool" && b == "int")
def askable (b : String) : Bool := ["int", "bool", "str", "tuple", "list", "dict"].contains b
theorem isB_ok {d : D} {a b : String} (h : d.ty = some a) (hb : askable b = true) : PySem.W.kitOne K (.type a) (.type b) = some (isB a b) := by
  have hb' : b = "int" ∨ b = "bool" ∨ b = "str" ∨ b = "tuple" ∨ b = "list" ∨ b = "dict" := by simpa [askable] using hb
  have ha : a = "NoneType" ∨ a = "bool" ∨ a = "int" ∨ a = "str" ∨ a = "tuple" ∨ a = "list" := by cases d <;> simp [D.ty] at h <;> subst h <;> simp
  rcases ha with rfl | rfl | rfl | rfl | rfl | rfl <;> rcases hb' with rfl | rfl | rfl | rfl | rfl | rfl <;> exact kit_ty (by decide +kernel)
def fIsi : List D → Option D := fun l => match l with
  | [d, .opq (.ty b)] => (match d.ty with | some a => if askable b then some (.bl (isB a b)) else none | none => none)
  | _ => none
theorem rn_isi : RN K (rIsi K) fIsi := fun H vs ds d' Q vw h q => by
  unfold fIsi at h
  split at h
  · rename_i d b
    obtain ⟨x, y, F, G, rfl, r1, ⟨rfl, _⟩⟩ := Vw.two vw
    split at h
    · rename_i a e
      split at h
      · rename_i hb
        cases h
        exact ⟨x, _, .type a, .type b, isB a b, rfl, .ty b, ty_of r1 e, isB_ok e hb, q _ [] H ⟨rfl, rfl⟩ Fresh.refl⟩
      · cases h
    · cases h
  · cases h
/-- a built-in class as a value -/
theorem so_bt {x : Str} {n : String} {pos : Pos} (hg : Gl X x) (hm : X.mg x = none) (hv : bootBuiltins x = some (.type n)) (hn : x ≠ "__name__" := by decide) (hd : (x == ("__debug__" : Str)) = false := by decide) : SO T X W (.Name x pos) (mC (.opq (.ty n))) :=
  ⟨PE.imp (pe_bltn (v := .ty n) hg hm hv rfl hn hd) fun _ _ _ h => tO_const h ⟨rfl, rfl⟩⟩
end
end TQ
set_option maxHeartbeats 4000000
namespace TQ
open PySem PySem.Spec PyProof.Rows L2
section
variable {T : List (Addr × Str)} {X : Cx} {W : WX} {H H1 H' : Hp} {P P1 P' : Addr → Prop} {σ : Sg} {kp js : List Nat} {K : PySem.W.Frag}
/-! ### while -/
def whileM (t : M Bool) (b : Sm) : Nat → Sm
  | 0, _ => .stuck
  | n + 1, s => match t s with
    | .ok true s1 => (match b s1 with
      | .ok .next s2 => whileM t b n s2
      | .ok .cont s2 => whileM t b n s2
      | .ok .brk s2 => .ok .next s2
      | .ok (.ret d) s2 => .ok (.ret d) s2
      | .exc c w s2 => .exc c w s2
      | .stuck => .stuck)
    | .ok false s1 => .ok .next s1
    | .exc c w s1 => .exc c w s1
    | .stuck => .stuck
theorem ss_while (n : Nat) {c : Expr} {body : List Stmt} {pos : Pos} {t : M Bool} {b : Sm} (hp : PassesOwn (model X.prog X.w) X.A X.env X.xe) (hc : ST T X W c t) (hb : SSs T X W kp body b) : SS T X W kp (.While c body [] pos) (whileM t b n) := by
  refine ⟨PS.imp (ps_while hp hc.run hb.run) fun Dn σ₀ H₀ q => ?_⟩
  obtain ⟨ds0, Fs0, R0, p0⟩ := q
  refine ⟨fun m σ H => ∃ ds Fs, SRel (gx T X) H σ ds Fs ∧ PostS T X W kp Dn H (InF Fs) σ (whileM t b m ds), ⟨n, ds0, Fs0, R0, p0⟩, fun m σ H ⟨ds, Fs, R, p⟩ => ?_⟩
  cases m with
  | zero => exact p.elim
  | succ m =>
    refine ⟨ds, Fs, R, ?_⟩
    unfold whileM at p
    cases e : t ds with
    | stuck => simp only [e] at p; exact p.elim
    | exc c w s1 =>
      simp only [e] at p
      exact fun C x v H' Fs' h1 h2 h3 h4 h5 => p C x v σ H' Fs' h1 h2 h3 .refl h4 h5
    | ok bb s1 =>
      intro b' F H' Fs' hb R' dj st
      obtain ⟨rfl, rfl⟩ := hb
      have st' : Step T H (InF Fs) H' (InF Fs') := st.less fun a z => .inr z
      cases bb with
      | false =>
        simp only [e] at p
        rw [if_neg (by decide)]
        exact p σ H' Fs' .refl R' st'
      | true =>
        simp only [e] at p
        rw [if_pos rfl]
        refine ⟨fun σ2 H2 => ∃ ds Fs, SRel (gx T X) H2 σ2 ds Fs ∧ PostS T X W kp Dn H2 (InF Fs) σ2 (whileM t b m ds), fun σ2 H2 h => ⟨m, Nat.lt_succ_self _, h⟩, s1, Fs', R', ?_⟩
        cases e2 : b s1 with
        | stuck => simp only [e2] at p; exact p
        | exc c w s2 => simp only [e2] at p; exact fun C xa v σ4 H4 Fs4 h1 h2 h3 k4 R4 s4 => p C xa v σ4 H4 Fs4 h1 h2 h3 k4 R4 (st'.trans s4)
        | ok fl s2 =>
          cases fl with
          | next => simp only [e2] at p; exact fun σ4 H4 Fs4 k4 R4 s4 => ⟨s2, Fs4, R4, PostS.step k4 (st'.trans s4) p⟩
          | cont => simp only [e2] at p; exact fun σ4 H4 Fs4 k4 R4 s4 => ⟨s2, Fs4, R4, PostS.step k4 (st'.trans s4) p⟩
          | brk => simp only [e2] at p; exact fun σ4 H4 Fs4 k4 R4 s4 => p σ4 H4 Fs4 k4 R4 (st'.trans s4)
          | ret d => simp only [e2] at p; exact fun v G σ4 H4 Fs4 h1 k4 R4 dj4 s4 => p v G σ4 H4 Fs4 h1 k4 R4 dj4 (st'.trans s4)
/-! ### a store into a list that a name holds -/
def sChk (j : Nat) (k : Sm) : Sm := fun s => match (s[j]?).join with
  | some (.lst _) => k s
  | _ => .stuck
def sStore (j : Nat) (mv mi : M Opd) : Sm := sBind mv fun o => sBind (toOwn o) fun d => sChk j (sBind (mInt mi) fun i s => match (s[j]?).join with
  | some (.lst l) => (match ixN l.length i with | some n => .ok .next (s.set j (some (.lst (l.set n d)))) | none => .stuck)
  | _ => .stuck)
theorem reps_set {K : PySem.W.Frag} {H : Hp} {d' : D} {v' : V} {F' : List Addr} (r' : rep K H d' v' F') : ∀ {l : List D} {vs : List V} {F : List Addr} (n : Nat), reps K H l vs F → (∀ a ∈ F', a ∉ F) → ∃ G, reps K H (l.set n d') (vs.set n v') G ∧ ∀ a ∈ G, a ∈ F ∨ a ∈ F'
  | [], _, F, n, h, _ => ⟨F, by rw [h.1]; exact ⟨rfl, h.2⟩, fun a ha => .inl ha⟩
  | d :: l, _, _, 0, h, dj => by
    obtain ⟨v, us, F1, F2, rfl, rfl, d12, r1, r2⟩ := h
    refine ⟨F' ++ F2, ⟨v', us, F', F2, rfl, rfl, fun a h1 h2 => dj a h1 (List.mem_append_right _ h2), r', r2⟩, fun a ha => ?_⟩
    exact (List.mem_append.mp ha).elim .inr fun z => .inl (List.mem_append_right _ z)
  | d :: l, _, _, n + 1, h, dj => by
    obtain ⟨v, us, F1, F2, rfl, rfl, d12, r1, r2⟩ := h
    obtain ⟨G, q, sub⟩ := reps_set r' n r2 fun a ha z => dj a ha (List.mem_append_right _ z)
    refine ⟨F1 ++ G, ⟨v, us.set n v', F1, G, rfl, rfl, fun a h1 h2 => ?_, r1, q⟩, fun a ha => ?_⟩
    · rcases sub a h2 with z | z
      · exact d12 a h1 z
      · exact dj a z (List.mem_append_left _ h1)
    · rcases List.mem_append.mp ha with z | z
      · exact .inl (List.mem_append_left _ z)
      · exact (sub a z).imp (List.mem_append_right _) id
theorem ss_store (j : Nat) {x : Str} {e i : Expr} {mv mi : M Opd} {pos p1 p2 : Pos} (hv : SO T X W e mv) (hi : SO T X W i mi) (hN : X.N[j]? = some x := by rfl) (hvis : Vis X.env.scope x := by first | exact Or.inl rfl | exact Or.inr (Or.inl rfl) | exact Or.inr (Or.inr rfl)) (hd : (x == ("__debug__" : Str)) = false := by decide)
    (hcd : (x == ("__classdict__" : Str)) = false := by decide)
    (ha : ∀ v, assign (.Subscript (.Name x p1) i p2) X.env v = (do
      let ov ← holding [v] (eval (.Name x p1) X.env)
      let iv ← holding [v, ov] (eval i X.env)
      standAt p2
      holding [v, ov, iv] (setItem ov iv v)
      release [v, ov, iv] []) := by intro _; rfl)
    (hs : swapsWithSole [.Subscript (.Name x p1) i p2] e pos.line X.env = pure false := by rfl) (hw : swappedStores [.Subscript (.Name x p1) i p2] e X.env = pure none := by rfl) (h1 : (assignEach [.Subscript (.Name x p1) i p2] X.env).map (·.2) = [assign (.Subscript (.Name x p1) i p2) X.env] := by rfl) :
    SS T X W kp (.Assign [.Subscript (.Name x p1) i p2] e pos) (sStore j mv mi) := by
  refine ⟨PS.imp (ps_asg hv.run (pg_sub (pe_var (i := j) hN hvis hd hcd) hi.run set_list ha) hs hw h1) fun Dn σ₀ H₀ q => tS_bind q fun o ds1 v F H1 Fs1 r R1 dj p => toOwn_post r R1 dj p fun d ds2 F2 Fs2 r2 R2 dj2 p2 => ?_⟩
  have mu2 := rep_mu d v F2 r2
  unfold sChk at p2
  cases ej : (ds2[j]?).join with
  | none => simp only [ej] at p2; exact p2.elim
  | some dj0 =>
    cases dj0 with
    | lst l0 =>
      simp only [ej] at p2
      obtain ⟨a, vs0, G0, hσ, hH0, hF0, n0, r0⟩ := R2.lst (join_some ej)
      refine ⟨.ref a, hσ, ?_⟩
      refine tM_imp (tO_of_int (R := fun n H3 => ∃ vs k, H3 a = some (.lst vs) ∧ ixN vs.length n = some k ∧ Dn.nx σ₀ (upd H3 a (.lst (vs.set k v)))) ?_) fun x H3 ⟨n, ex, vs, k, q1, q2, q3⟩ => ⟨a, vs, n, k, rfl, ex, q1, q2, q3⟩
      refine ⟨ds2, Fs2, R2, ?_⟩
      unfold sBind at p2
      cases e0 : mInt mi ds2 with
      | stuck => simp only [e0] at p2; exact p2.elim
      | exc c w s =>
        simp only [e0] at p2
        exact fun C x v H' Fs' h1 h2 h3 h4 h5 => p2 C x v σ₀ H' Fs' h1 h2 h3 .refl h4 ((h5.frame mu2).less fun a z => .inr z)
      | ok n s =>
        simp only [e0] at p2
        intro n' F' H3 Fs3 rz R3 dj3 st3
        obtain ⟨rfl, rfl⟩ := rz
        have st : Step T H1 (InF Fs2) H3 (InF Fs3) := st3.less fun a z => .inr z
        cases e1 : (s[j]?).join with
        | none => simp only [e1] at p2; exact p2.elim
        | some d1 =>
          cases d1 with
          | lst l =>
            simp only [e1] at p2
            cases e2 : ixN l.length n with
            | none => simp only [e2] at p2; exact p2.elim
            | some k =>
              simp only [e2] at p2
              obtain ⟨a', vs, Gs, hσ', hH, hF, nG, rr⟩ := R3.lst (join_some e1)
              rw [hσ] at hσ'
              cases hσ'
              have rv := rep_step st d v F2 r2 dj2
              have djF := st.disj mu2 dj2
              have mu3 := rep_mu d v F2 rv
              obtain ⟨Gs', rs, sub⟩ := reps_set rv k rr fun b hb z => djF b hb ⟨j, by rw [hF]; exact List.mem_cons_of_mem _ z⟩
              have na : a ∉ Gs' := fun z => (sub a z).elim nG fun y => djF a y ⟨j, by rw [hF]; exact List.mem_cons_self⟩
              obtain ⟨R4, st4⟩ := R3.chg (join_some e1) hσ hH hF na rs sub mu3 djF
              refine ⟨vs, k, hH, by rw [reps_length rr]; exact e2, p2 σ₀ _ _ .refl R4 ((st.frame mu2).trans st4)⟩
          | _ => simp only [e1] at p2; exact p2.elim
    | _ => simp only [ej] at p2; exact p2.elim
/-! ### slices -/
def mNoPart : M (Option Int) := mRet none
def mPart (m : M Opd) : M (Option Int) := mBind (mInt m) fun i => mRet (some i)
def rP : Rl (Option Int) (Option Int) := fun _ _ b b' F => b = b' ∧ F = []
structure SP' (T : List (Addr × Str)) (X : Cx) (W : WX) (e : Option Expr) (m : M (Option Int)) : Prop where
  run : PO X e (fun σ H Q => tM T X W rP m σ H Q)
theorem PO.imp {e : Option Expr} {t t' : TO} (h : PO X e t) (hi : ∀ σ H Q, t' σ H Q → t σ H Q) : PO X e t' := ⟨fun pins s σ H Q I q => h.run pins s σ H Q I (hi _ _ _ q)⟩
theorem sp_none : SP' T X W none mNoPart := ⟨PO.imp po_none fun σ H Q ⟨ds, Fs, R, p⟩ => p none [] H Fs ⟨rfl, rfl⟩ R (fun _ z => by cases z) ((Step.refl R.mu).less fun a z => z.elim (fun y => by cases y) id)⟩
theorem sp_some {e : Expr} {m : M Opd} (h : SO T X W e m) : SP' T X W (some e) (mPart m) := ⟨PO.imp (po_some h.run) fun σ H Q q => by
  refine tO_of_int (R := fun i H1 => Q (some i) H1) (tM_bind q fun i ds1 i' F H1 Fs1 r R1 dj p => ?_)
  have mu := rZ_mu r
  obtain ⟨rfl, _⟩ := r
  exact p _ [] H1 Fs1 ⟨rfl, rfl⟩ R1 (fun _ z => by cases z) ((Step.refl fun a z => z.elim (mu a) (R1.mu a)).less fun a z => z.elim (fun y => by cases y) .inr)⟩
/-- the slice of what an operand is when both parts have come -/
def mSlice (ma : M Opd) (ml mu : M (Option Int)) (f : Option Int → Option Int → List D → Option D) : M Opd := mBind ma fun o => mBind ml fun lo => mBind mu fun hi s => match o.get s with
  | some d => (match f lo hi [d] with | some r => .ok (.own r) s | none => .stuck)
  | none => .stuck
/-- one evaluation, something lying aside -/
theorem tM_aside {α β : Type} {rel : Rl α β} {m : M α} {k : α → M Opd} {Q : VK} {R : β → Hp → Prop} {F : List Addr} {ds1 : Sd} {Fs1 : Nat → List Addr} (mu : ∀ a ∈ F, ∃ o, H1 a = some o ∧ Mu o) (dj : ∀ a ∈ F, ¬ InF Fs1 a) (R1 : SRel (gx T X) H1 σ ds1 Fs1) (relmu : ∀ H a b F, rel σ H a b F → F = [])
    (p : Post T X W (rO X) H1 (fun x => x ∈ F ∨ InF Fs1 x) σ (mBind m k ds1) Q)
    (hk : ∀ a ds2 b H2 Fs2, rel σ H2 a b [] → SRel (gx T X) H2 σ ds2 Fs2 → Step T H1 (InF Fs1) H2 (InF Fs2) → (∀ a ∈ F, ∃ o, H2 a = some o ∧ Mu o) → (∀ a ∈ F, ¬ InF Fs2 a) → Post T X W (rO X) H2 (fun x => x ∈ F ∨ InF Fs2 x) σ (k a ds2) Q → R b H2) : tM T X W rel m σ H1 R := by
  refine ⟨ds1, Fs1, R1, ?_⟩
  unfold mBind at p
  cases e : m ds1 with
  | stuck => rw [e] at p; exact p.elim
  | exc c w s =>
    rw [e] at p
    exact fun C x v H' Fs' h1 h2 h3 h4 h5 => p C x v H' Fs' h1 h2 h3 h4 ((h5.frame mu).less fun a z => .inr z)
  | ok a ds2 =>
    rw [e] at p
    intro b F2 H2 Fs2 r2 R2 dj2 st
    have e2 := relmu _ _ _ _ r2
    subst e2
    have st' : Step T H1 (InF Fs1) H2 (InF Fs2) := st.less fun a z => .inr z
    exact hk a ds2 b H2 Fs2 r2 R2 st' (fun a ha => by
      obtain ⟨o, eo, mo⟩ := mu a ha
      exact ⟨o, st'.keep a o eo (dj a ha) (fun ps z => by rw [z] at mo; exact mo), mo⟩) (st'.disj mu dj) (Post.step (st'.frame mu) p)
def RS (K : PySem.W.Frag) (r : V → Option Int → Option Int → Hp → VK → Prop) (f : Option Int → Option Int → List D → Option D) : Prop := ∀ lo hi, RN K (r1L fun x H Q => r x lo hi H Q) (f lo hi)
theorem so_slice {e : Expr} {lo hi : Option Expr} {pos p2 : Pos} {m : M Opd} {ml mu : M (Option Int)} {r : V → Option Int → Option Int → Hp → VK → Prop} {f : Option Int → Option Int → List D → Option D} (hr : SlR X r) (hf : RS X.K r f) (he : SO T X W e m) (hl : SP' T X W lo ml) (hu : SP' T X W hi mu) :
    SO T X W (.Subscript e (.Slice lo hi none p2) pos) (mSlice m ml mu f) := by
  refine ⟨PE.imp (pe_slice hr he.run hl.run hu.run) fun σ H Q q => ?_⟩
  refine tM_bind q fun o ds1 v F H1 Fs1 r1 R1 dj p => ?_
  refine tM_aside (rel := rP) (rO_mu r1) dj R1 (fun _ _ _ _ h => h.2) p fun lo' ds2 lo2 H2 Fs2 rl R2 st2 mu2 dj2 p2 => ?_
  refine tM_aside (rel := rP) mu2 dj2 R2 (fun _ _ _ _ h => h.2) p2 fun hi' ds3 hi2 H3 Fs3 rh R3 st3 mu3 dj3 p3 => ?_
  obtain ⟨rfl, _⟩ := rl
  obtain ⟨rfl, _⟩ := rh
  have ro : rO X σ H3 o v F := rO_step st3 (rO_step st2 r1 dj) dj2
  cases eo : o.get ds3 with
  | none => simp only [eo] at p3; exact p3.elim
  | some d =>
    cases ef : f lo' hi' [d] with
    | none => simp only [eo, ef] at p3; exact p3.elim
    | some dr =>
      simp only [eo, ef] at p3
      obtain ⟨F', rd, _⟩ := rO_get ro R3 eo
      obtain ⟨x, ex, hx⟩ := hf lo' hi' H3 [v] [d] dr Q ⟨v, [], F', rfl, rd, rfl⟩ ef fun v' G H4 rp fr => p3 v' G H4 Fs3 rp (R3.fresh fr) (fun a ha z => by
        obtain ⟨o, eo, _⟩ := R3.mu a z
        rw [fr.new a ha] at eo; cases eo) ((fr.step (P := fun x => x ∈ F ∨ InF Fs3 x) fun a h => h.elim (mu3 a) (R3.mu a)).less fun a h => h.elim .inl fun z => .inr (.inr z))
      cases ex
      exact hx
/-- the items of a slice -/
def cutD {α : Type} (l : List α) (lo hi : Option Int) : List α := (l.drop (HT.sIx l.length 0 lo)).take (HT.sIx l.length l.length hi - HT.sIx l.length 0 lo)
def fSl : Option Int → Option Int → List D → Option D := fun lo hi l => match l with
  | [.tup l] => if pureL l then some (.tup (cutD l lo hi)) else none
  | [.lst l] => if pureL l then some (.lst (cutD l lo hi)) else none
  | [.frl l] => if pureL l then some (.lst (cutD l lo hi)) else none
  | _ => none
def rSl (K : PySem.W.Frag) : V → Option Int → Option Int → Hp → VK → Prop := fun x lo hi H Q => rSlA K x lo hi H Q ∨ rSlL K x lo hi H Q
theorem sl_any : SlR X (rSl X.K) := SlR.or sl_tupA sl_list
theorem reps_drop {K : PySem.W.Frag} {H : Hp} : ∀ {l : List D} {vs : List V} (n : Nat), reps K H l vs [] → reps K H (l.drop n) (vs.drop n) []
  | _, _, 0, h => h
  | [], _, n + 1, h => by rw [h.1]; exact ⟨rfl, rfl⟩
  | d :: l, _, n + 1, h => by
    obtain ⟨v, us, F1, F2, rfl, e, _, _, r⟩ := h
    have e2 : F2 = [] := (List.append_eq_nil_iff.mp e.symm).2
    subst e2
    exact reps_drop n r
theorem reps_take {K : PySem.W.Frag} {H : Hp} : ∀ {l : List D} {vs : List V} (n : Nat), reps K H l vs [] → reps K H (l.take n) (vs.take n) []
  | l, vs, 0, h => ⟨rfl, rfl⟩
  | [], _, n + 1, h => by rw [h.1]; exact ⟨rfl, rfl⟩
  | d :: l, _, n + 1, h => by
    obtain ⟨v, us, F1, F2, rfl, e, dj, r1, r⟩ := h
    have e1 : F1 = [] := (List.append_eq_nil_iff.mp e.symm).1
    have e2 : F2 = [] := (List.append_eq_nil_iff.mp e.symm).2
    subst e1 e2
    exact ⟨v, us.take n, [], [], rfl, rfl, (fun _ z => by cases z), r1, reps_take n r⟩
theorem cut_whole {α : Type} {l : List α} {lo hi : Option Int} (h : HT.sIx l.length 0 lo = 0 ∧ HT.sIx l.length l.length hi = l.length) : cutD l lo hi = l := by
  unfold cutD
  rw [h.1, h.2]
  simp
theorem rs_sl : RS K (rSl K) fSl := fun lo hi H vs ds d' Q vw h q => by
  unfold fSl at h
  split at h
  · rename_i l
    obtain ⟨x, F, rfl, ⟨a, us, rfl, t, r⟩⟩ := Vw.one vw
    split at h
    · rename_i hp
      cases h
      have e := reps_pure l us F hp r
      subst e
      have hl := reps_length r
      have rc : ∀ H, reps K H l us [] → reps K H (cutD l lo hi) (cutV us lo hi) [] := fun H r => by
        unfold cutD cutV
        rw [hl]
        exact reps_take _ (reps_drop _ r)
      refine ⟨_, rfl, .inl ⟨a, us, rfl, t, fun hw => ?_, fun _ p hp => q _ [] _ ⟨p, _, rfl, SqT.of upd_same, (Fresh.at0 hp).kreps (rc H r)⟩ (Fresh.at0 hp)⟩⟩
      rw [hl] at hw
      rw [cut_whole hw] at q
      exact q _ [] H ⟨a, us, rfl, t, r⟩ Fresh.refl
    · cases h
  · rename_i l
    obtain ⟨x, F, rfl, ⟨a, us, G, rfl, t, _, _, r⟩⟩ := Vw.one vw
    split at h
    · rename_i hp
      cases h
      have e := reps_pure l us G hp r
      subst e
      have hl := reps_length r
      refine ⟨_, rfl, .inr ⟨a, us, rfl, SqL.of t, fun p hp => q _ [p] _ ⟨p, _, [], rfl, upd_same, rfl, by simp, (Fresh.at0 hp).kreps ?_⟩ (Fresh.at1 hp)⟩⟩
      unfold cutD cutV
      rw [hl]
      exact reps_take _ (reps_drop _ r)
    · cases h
  · rename_i l
    obtain ⟨x, F, rfl, ⟨a, us, rfl, t, _, r⟩⟩ := Vw.one vw
    split at h
    · rename_i hp
      cases h
      have hl := reps_length r
      refine ⟨_, rfl, .inr ⟨a, us, rfl, t.sq, fun p hp => q _ [p] _ ⟨p, _, [], rfl, upd_same, rfl, by simp, (Fresh.at0 hp).kreps ?_⟩ (Fresh.at1 hp)⟩⟩
      unfold cutD cutV
      rw [hl]
      exact reps_take _ (reps_drop _ r)
    · cases h
  · cases h
end
end TQ
set_option maxHeartbeats 4000000
namespace TQ
open PySem PySem.Spec PyProof.Rows L2 HT
section
variable {prog : Program} {w : World} {A : Around} {E : Value → Shared → Prop} {s : Shared}
theorem adjust_rev (n : Nat) : Builtin.Slice.sliceAdjust none none (-1) (n : Int) = ((n : Int) - 1, -1) := by
  unfold Builtin.Slice.sliceAdjust
  simp
theorem places_rev (n : Nat) : Builtin.Slice.slicePlaces ((n : Int) - 1) (-1) (-1) = n := by
  unfold Builtin.Slice.slicePlaces
  have h1 : ¬ ((-1 : Int) > 0) := by decide
  rw [if_neg h1]
  by_cases h : (n : Int) - 1 > -1
  · rw [if_pos h, show (- -1 : Int) = 1 by decide, Int.ediv_one]; omega
  · rw [if_neg h]; omega
theorem fm_congr {α β : Type} {f g : α → Option β} : ∀ {l : List α}, (∀ m ∈ l, f m = g m) → l.filterMap f = l.filterMap g
  | [], _ => rfl
  | a :: l, h => by
    rw [List.filterMap_cons, List.filterMap_cons, h a List.mem_cons_self, fm_congr fun m hm => h m (List.mem_cons_of_mem _ hm)]
theorem pick_rev (xs : Array Value) : ((List.range xs.size).filterMap fun (m : Nat) => xs[((xs.size : Int) - 1 + (m : Int) * (-1)).toNat]?).toArray = xs.toList.reverse.toArray := by
  congr 1
  have e : (List.range xs.size).filterMap (fun (m : Nat) => xs[((xs.size : Int) - 1 + (m : Int) * (-1)).toNat]?) = ((List.range xs.size).map fun k => xs.size - 1 - k).filterMap (xs[·]?) := by
    rw [List.filterMap_map]
    refine fm_congr fun m hm => ?_
    have := List.mem_range.mp hm
    show xs[((xs.size : Int) - 1 + (m : Int) * (-1)).toNat]? = xs[xs.size - 1 - m]?
    rw [show ((xs.size : Int) - 1 + (m : Int) * (-1)).toNat = xs.size - 1 - m by omega]
  rw [e, PySem.W.krv_range, List.filterMap_reverse, PySem.W.krv_all]
theorem applied_rev {sl : Addr} {tk : Tok} {n : Nat} {Q : Int × Int × Nat → Shared → Prop} (hs : s.heap.IsSliceOf sl .none .none (.int (-1) tk)) (h : Q ((n : Int) - 1, -1, n) s) : wpAny (model prog w) A (Builtin.Slice.sliceApplied (.ref sl) (pure (n : Int))) Q E s := by
  obtain ⟨os, hos, hcs, hds⟩ := id hs
  unfold Builtin.Slice.sliceApplied Builtin.Slice.sliceFields
  refine wpAny_bind (wpAny_bind (wpAny_field hos hds (x := .none) rfl (wpAny_bind (wpAny_field hos hds (x := .none) rfl (wpAny_bind (wpAny_field hos hds (x := .int (-1) tk) rfl (wpAny_pure ?_)))))))
  refine wpAny_bind (slicePart_int ?_)
  show wpAny _ _ (if ((-1 : Int) == 0) = true then _ else _) _ _ s
  rw [if_neg (by decide)]
  refine wpAny_bind (slicePart_none (wpAny_bind (slicePart_none (wpAny_bind (wpAny_pure ?_)))))
  show wpAny _ _ (match Builtin.Slice.sliceAdjust none none (-1) (n : Int) with | (lo, hi) => pure (lo, (-1 : Int), Builtin.Slice.slicePlaces lo hi (-1))) _ _ s
  rw [adjust_rev n]
  show wpAny _ _ (pure ((n : Int) - 1, (-1 : Int), Builtin.Slice.slicePlaces ((n : Int) - 1) (-1) (-1))) _ _ s
  rw [places_rev]
  exact wpAny_pure h
theorem getItem_tuple_rev {t sl : Addr} {items : Array Value} {tk : Tok} {Q : Value → Shared → Prop} (ht : IsTup s.heap t items) (hs : s.heap.IsSliceOf sl .none .none (.int (-1) tk))
    (h : Q (.ref s.heap.objs.size) { s with heap := s.heap.push { cls := .type "tuple", data := .seq items.toList.reverse.toArray } })
    (hsz : items.size ≤ sizeLine) : wpAny (model prog w) A (getItem (.ref t) (.ref sl)) Q E s := by
  have htake : sizeOk (.seq items.toList.reverse.toArray) := by
    show items.toList.reverse.toArray.size ≤ sizeLine
    rw [List.size_toArray, List.length_reverse, Array.length_toList]
    exact hsz
  obtain ⟨os, hos, hcs, hds⟩ := id hs
  have hTs : s.TypeIs (.ref sl) "slice" := ⟨os, hos, hcs⟩
  unfold getItem
  try with_reducible refine wpAny_holding ?_
  first | refine wpAny_bind (wpAny_pure ?_) | skip
  refine wpAny_bind (wpAny_sequenceKey ht.typeIs (by decide) ?_)
  refine wpAny_bind (wpAny_callSpecial?_slot (name := Str.ofString "__getitem__") ht.typeIs PyProof.Rows.slot_tuple_getitem
    (wpAny_call_entry PyProof.Rows.slot_tuple_getitem ht.typeIs entry_tuple_getitem ?_ (args_tuple_getitem _ _)))
  show wpAny _ _ (Builtin.Tuple.tupleItemsOf (.ref t) >>= _) _ _ s
  refine wpAny_bind (tupleItemsOf_ ht ?_)
  refine wpAny_bind (wpAny_typeOf hTs ?_)
  rw [if_pos (by decide)]
  refine wpAny_bind (applied_rev hs ?_)
  have hno : ¬ ((((items.size : Int) - 1) == 0 && (-1 : Int) == 1 && items.size == items.size) = true) := by
    rw [show ((-1 : Int) == 1) = false by decide, Bool.and_false, Bool.false_and]
    exact Bool.false_ne_true
  show wpAny _ _ (if (((items.size : Int) - 1) == 0 && (-1 : Int) == 1 && items.size == items.size) = true then _ else _) _ _ s
  rw [if_neg hno, pick_rev]
  first
    | exact wpAny_bind (m := Builtin.Tuple.tupleExact _) (wpAny_newObj_type (wpAny_pure ⟨_, rfl, wpAny_pure h⟩) htake)
    | exact wpAny_bind (m := Builtin.Tuple.tupleExact _) (wpAny_newObj_type (wpAny_bind (wpAny_pure (wpAny_pure ⟨_, rfl, wpAny_pure h⟩))) htake)
    | exact wpAny_bind (wpAny_bind (m := Builtin.Tuple.tupleExact _) (wpAny_newObj_type (wpAny_pure (wpAny_pure ⟨_, rfl, wpAny_pure h⟩)) htake))
    | exact wpAny_bind (wpAny_bind (m := Builtin.Tuple.tupleExact _) (wpAny_newObj_type (wpAny_pure ⟨_, rfl, wpAny_pure h⟩) htake))
/-- t * 1, () * k -/
theorem tuple_mulS (l : Addr) (items : Array Value) (n : Nat) (dd : Option Addr) (sl : Array (Option Value)) (x : Int) (u : Tok) (c0 : (decide (x < -(2 ^ 63)) || decide (x ≥ 2 ^ 63)) = false) (c1 : (items.isEmpty || x == 1) = true) :
    Meets (Builtin.«tuple.__mul__» ⟨[.ref l, .int x u], []⟩) (fun _ R s => s.heap.get? l = some { cls := .type "tuple", dict := dd, data := .seq items n, slots := sl } ∧
      R (.ok (.ret (Value.ref l))) s) :=
  .of_wp fun prog w A R s h => by
    obtain ⟨hp, g, d, tk, os⟩ := s
    obtain ⟨hl, h⟩ := h
    have f1 := AutoSeq1.idx_int
    wp_walk using wpAny_loadPart' hl
    repeat (first
      | (refine wpAny_ite_false (decide_eq_false (by rw [c0]; exact Bool.false_ne_true)) ?_; wp_walk using wpAny_loadPart' hl)
      | (refine wpAny_ite_true (decide_eq_true c1) ?_; wp_walk using wpAny_loadPart' hl))
    exact ⟨_, rfl, h⟩
end
section
variable {T : List (Addr × Str)} {X : Cx} {W : WX} {H H1 H' : Hp} {P P1 P' : Addr → Prop} {σ : Sg} {kp js : List Nat} {K : PySem.W.Frag}
/-! ### x[::-1] -/
def rRev (K : PySem.W.Frag) : V → Hp → VK → Prop := fun x H Q => ∃ a xs, x = .ref a ∧ ((SqT K H a xs ∧ ∀ p, H p = none → Q (.ref p) (upd H p (.tup xs.reverse))) ∨ (SqL K H a xs ∧ ∀ p, H p = none → Q (.ref p) (upd H p (.lst xs.reverse))))
theorem pe_rev {e : Expr} {te : TE} {k : Nat} {p1 p2 p3 pos : Pos} (he : PE X e te) : PE X (.Subscript e (.Slice none none (some (.UnaryOp .USub (.Constant (.int 1) k p1) p2)) p3) pos) (fun σ H Q => te σ H fun x H1 => rRev X.K x H1 Q) := by
  refine ⟨fun pins s σ H Q I h => ?_⟩
  refine Subscript_ (thn (he.run pins s σ H _ I h) fun v s1 ⟨x, H1, I1, r1, q1⟩ => ?_)
  obtain ⟨a, xs, ex, q⟩ := q1
  subst ex
  cases r1
  have hst : PO X (some (.UnaryOp .USub (.Constant (.int 1) k p1) p2)) (tPart (tUn (rU fun i => .int (-i)) (tC (.int 1)))) := po_some (pe_un un_neg pe_int)
  refine wpAny_Slice (thn (po_none.run pins s1 σ H1 (fun o H2 => o = none ∧ H2 = H1) I1 ⟨rfl, rfl⟩) fun vl s2 ⟨l, H2, I2, pl, el, e2⟩ => ?_)
  subst el e2
  refine thn (po_none.run pins s2 σ H2 (fun o H3 => o = none ∧ H3 = H2) I2 ⟨rfl, rfl⟩) fun vu s3 ⟨u, H3, I3, pu, eu, e3⟩ => ?_
  subst eu e3
  refine thn (hst.run pins s3 σ H3 (fun o H4 => o = some (-1) ∧ H4 = H3) I3 ⟨1, rfl, -1, rfl, rfl, rfl⟩) fun vs s4 ⟨o, H4, I4, ps, eo, e4⟩ => ?_
  subst eo e4
  have I5 : Inv X pins σ H4 { s4 with heap := s4.heap.push { cls := .type "slice", data := .fields #[vl, vu, vs] } } := I4.kept (t' := s4.toks) fun b ob q => Heap.get?_push_of_some _ q
  rcases q with ⟨hx, q⟩ | ⟨hx, q⟩
  · obtain ⟨its, r, ht, hz⟩ := I5.tuple hx
    have hlen := r.length
    show wpAny (model X.prog X.w) X.A (subscriptTail e (.Slice none none (some (.UnaryOp .USub (.Constant (.int 1) k p1) p2)) p3) (.ref a) (.ref s4.heap.objs.size)) (EP X pins σ Q) X.xe { s4 with heap := s4.heap.push { cls := .type "slice", data := .fields #[vl, vu, vs] } }
    refine tail_any (ops := [.ref a, .ref s4.heap.objs.size]) ht.typeIs (PyProof.Rows.slot_tuple_getitem.lookup) ?_ (by with_unfolding_all rfl)
    cases pl
    cases pu
    cases ps
    refine getItem_tuple_rev ht (Heap.IsSliceOf.new _ _ _ _) ?_ (by rw [List.size_toArray]; omega)
    refine ⟨.ref _, _, I5.laid (t' := s4.toks) (o := .tup xs.reverse) (fun b ob q => Heap.get?_push_of_some _ q) (Nat.le_refl _) ?_, rfl, q _ (I5.hok.fresh (Nat.le_refl _))⟩
    exact ⟨by rw [List.length_reverse]; exact hz, _, r.reverse, IsTup.new _ _⟩
  · obtain ⟨its, r, ht, hz⟩ := I5.list hx
    have hlen := r.length
    show wpAny (model X.prog X.w) X.A (subscriptTail e (.Slice none none (some (.UnaryOp .USub (.Constant (.int 1) k p1) p2)) p3) (.ref a) (.ref s4.heap.objs.size)) (EP X pins σ Q) X.xe { s4 with heap := s4.heap.push { cls := .type "slice", data := .fields #[vl, vu, vs] } }
    refine tail_any (ops := [.ref a, .ref s4.heap.objs.size]) ht.isList.typeIs (PySem.slot_list_getitem.lookup) ?_ (by with_unfolding_all rfl)
    refine wpAny_getItem_list_slice ht.isList (Heap.IsSliceOf.new _ vl vu vs) pl pu ps (by decide) ?_ (by rw [List.size_toArray]; omega)
    rw [PySem.W.krv_pick]
    refine ⟨.ref _, _, I5.laid (t' := s4.toks) (o := .lst xs.reverse) (fun b ob q => Heap.get?_push_of_some _ q) (Nat.le_refl _) ?_, rfl, q _ (I5.hok.fresh (Nat.le_refl _))⟩
    exact ⟨by rw [List.length_reverse]; exact hz, _, 0, r.reverse, Heap.get?_push_size _ rfl⟩
def fRev : List D → Option D := fun l => match l with
  | [.tup l] => if pureL l then some (.tup l.reverse) else none
  | [.lst l] => if pureL l then some (.lst l.reverse) else none
  | [.frl l] => if pureL l then some (.lst l.reverse) else none
  | _ => none
theorem reps_reverse {K : PySem.W.Frag} {H : Hp} : ∀ {l : List D} {vs : List V}, reps K H l vs [] → reps K H l.reverse vs.reverse []
  | [], _, h => by rw [h.1]; exact ⟨rfl, rfl⟩
  | d :: l, _, h => by
    obtain ⟨v, us, F1, F2, rfl, e, dj, r1, r⟩ := h
    have e1 : F1 = [] := (List.append_eq_nil_iff.mp e.symm).1
    have e2 : F2 = [] := (List.append_eq_nil_iff.mp e.symm).2
    subst e1 e2
    rw [List.reverse_cons, List.reverse_cons]
    exact reps_nil_app (reps_reverse r) ⟨v, [], [], [], rfl, rfl, (fun _ z => by cases z), r1, ⟨rfl, rfl⟩⟩
theorem rn_rev : RN K (r1L (rRev K)) fRev := fun H vs ds d' Q vw h q => by
  unfold fRev at h
  split at h
  · rename_i l
    obtain ⟨x, F, rfl, ⟨a, us, rfl, t, r⟩⟩ := Vw.one vw
    split at h
    · rename_i hp
      cases h
      have e := reps_pure l us F hp r
      subst e
      exact ⟨_, rfl, a, us, rfl, .inl ⟨t, fun p hp => q _ [] _ ⟨p, _, rfl, SqT.of upd_same, (Fresh.at0 hp).kreps (reps_reverse r)⟩ (Fresh.at0 hp)⟩⟩
    · cases h
  · rename_i l
    obtain ⟨x, F, rfl, ⟨a, us, G, rfl, t, _, _, r⟩⟩ := Vw.one vw
    split at h
    · rename_i hp
      cases h
      have e := reps_pure l us G hp r
      subst e
      exact ⟨_, rfl, a, us, rfl, .inr ⟨SqL.of t, fun p hp => q _ [p] _ ⟨p, _, [], rfl, upd_same, rfl, by simp, (Fresh.at0 hp).kreps (reps_reverse r)⟩ (Fresh.at1 hp)⟩⟩
    · cases h
  · rename_i l
    obtain ⟨x, F, rfl, ⟨a, us, rfl, t, _, r⟩⟩ := Vw.one vw
    split at h
    · rename_i hp
      cases h
      exact ⟨_, rfl, a, us, rfl, .inr ⟨t.sq, fun p hp => q _ [p] _ ⟨p, _, [], rfl, upd_same, rfl, by simp, (Fresh.at0 hp).kreps (reps_reverse r)⟩ (Fresh.at1 hp)⟩⟩
    · cases h
  · cases h
theorem so_rev {e : Expr} {k : Nat} {p1 p2 p3 pos : Pos} {m : M Opd} (he : SO T X W e m) : SO T X W (.Subscript e (.Slice none none (some (.UnaryOp .USub (.Constant (.int 1) k p1) p2)) p3) pos) (mApp (m1 m) fRev) :=
  ⟨PE.imp (pe_rev he.run) fun σ H Q h => tM_imp (tA_one (tA_app rn_rev h)) fun x H1 ⟨x', e, q⟩ => by cases e; exact q⟩
/-! ### * -/
def rRepS (K : PySem.W.Frag) : R2 := fun x y H Q => ∃ l k xs, x = .ref l ∧ y = .int k ∧ SqT K H l xs ∧ -(2 ^ 63) ≤ k ∧ k < 2 ^ 63 ∧ (xs = [] ∨ k = 1) ∧ Q (.ref l) H
theorem op_repS : OpR X (binaryOp .Mult) (rRepS X.K) := by
  intro pins s σ H x y v u Q I rx ry h
  obtain ⟨l, k, xs, rfl, rfl, hT, h1, h2, hz, q⟩ := h
  cases rx
  obtain ⟨t, rfl⟩ := ry
  obtain ⟨its, r, ⟨⟨cls, dd, data, sl⟩, ho, hc, n, hd⟩, hs⟩ := I.tuple hT
  simp only at hc hd
  subst hc hd
  have hle : its.length = xs.length := r.length.symm
  have c0 : (decide (k < -(2 ^ 63)) || decide (k ≥ 2 ^ 63)) = false := by
    rw [decide_eq_false (by omega), decide_eq_false (by omega)] <;> rfl
  have c1 : (its.toArray.isEmpty || k == 1) = true := by
    rcases hz with rfl | rfl
    · have : its = [] := List.eq_nil_of_length_eq_zero (by simpa using hle)
      subst this; rfl
    · rw [show ((1 : Int) == 1) = true by decide, Bool.or_true]
  exact wpAny_binaryOp_repeat_ref (T := "tuple") (U := "int") (by decide) ⟨_, ho, rfl⟩ (fun s' => typeIs_int s' k t) noFill_tuple_mul F.fills_int_mul F.slot_int_rmul repeat_tuple F.slot_int_index.lookup
    (call_meets F.slot_int_rmul (typeIs_int s k t) F.entry_int_rmul (F.args_int_rmul_2 _ _) (int_rmul_tuple k t l its.toArray n dd sl)
      ⟨ho, rfl, ⟨_, ho, rfl⟩, call_meets F.slot_tuple_mul ⟨_, ho, rfl⟩ F.entry_tuple_mul (F.args_tuple_mul_2 _ _) (tuple_mulS l its.toArray n dd sl k t c0 c1) ⟨ho, ⟨.ref l, _, I, rfl, q⟩⟩⟩)
def rMulA (K : PySem.W.Frag) : R2 := fun x y H Q => L2.rI CMul (fun i j => .int (i * j)) x y H Q ∨ L2.rI CMulW (fun i j => .int (i * j)) x y H Q ∨ rRepS K x y H Q ∨ rRepT K x y H Q ∨ rRep x y H Q
theorem op_mulA : OpR X (binaryOp .Mult) (rMulA X.K) := OpR.or op_mul (OpR.or op_mulW (OpR.or op_repS (OpR.or op_repT op_rep)))
def wideB (i j : Int) : Bool := decide (i.natAbs.log2 + j.natAbs.log2 < 1000000)
def fMul : List D → Option D := fun l => match l with
  | [.int i, .int j] => if mulB i j || wideB i j then some (.int (i * j)) else none
  | [.tup a, .int k] => if pureL a && (decide (a = []) || decide (k = 1)) && decide (-1000 ≤ k ∧ k ≤ 1000) then some (.tup (List.replicate k.toNat a).flatten)
    else if pureL a && decide (a ≠ []) && decide (2 ≤ k ∧ k ≤ 1000 ∧ a.length ≤ 1000) then some (.tup (List.replicate k.toNat a).flatten) else none
  | [.lst a, .int k] => if pureL a && decide (-1000000 ≤ k ∧ k ≤ 1000000) && smallB (a.length * k.toNat) then some (.lst (List.replicate k.toNat a).flatten) else none
  | _ => none
theorem reps_rep {K : PySem.W.Frag} {H : Hp} {l : List D} {vs : List V} (h : reps K H l vs []) : ∀ n : Nat, reps K H (List.replicate n l).flatten (List.replicate n vs).flatten []
  | 0 => ⟨rfl, rfl⟩
  | n + 1 => by
    rw [List.replicate_succ, List.replicate_succ, List.flatten_cons, List.flatten_cons]
    exact reps_nil_app h (reps_rep h n)
theorem rn_mul : RN K (r2L (rMulA K)) fMul := fun H vs ds d' Q vw h q => by
  unfold fMul at h
  split at h
  · rename_i i j
    obtain ⟨x, y, F, G, rfl, ⟨rfl, _⟩, ⟨rfl, _⟩⟩ := Vw.two vw
    split at h
    · rename_i hz
      cases h
      by_cases hm : mulB i j = true
      · exact ⟨_, _, rfl, .inl ⟨_, _, rfl, rfl, mulB_iff hm, q _ [] H ⟨rfl, rfl⟩ Fresh.refl⟩⟩
      · have hw : wideB i j = true := by
          rw [Bool.or_eq_true] at hz
          exact hz.resolve_left hm
        exact ⟨_, _, rfl, .inr (.inl ⟨_, _, rfl, rfl, of_decide_eq_true (p := i.natAbs.log2 + j.natAbs.log2 < 1000000) hw, q _ [] H ⟨rfl, rfl⟩ Fresh.refl⟩)⟩
    · cases h
  · rename_i a k
    obtain ⟨x, y, F, G, rfl, ⟨p1, vs1, rfl, t1, r1⟩, ⟨rfl, _⟩⟩ := Vw.two vw
    split at h
    · rename_i hz
      cases h
      simp only [Bool.and_eq_true] at hz
      have e1 := reps_pure a vs1 F hz.1.1 r1
      subst e1
      have l1 := reps_length r1
      have hk := of_decide_eq_true hz.2
      have hor : a = [] ∨ k = 1 := by
        have := hz.1.2
        rw [Bool.or_eq_true] at this
        exact this.imp of_decide_eq_true of_decide_eq_true
      have hfl : (List.replicate k.toNat a).flatten = a := by
        rcases hor with rfl | rfl
        · simp
        · simp
      rw [hfl] at q
      refine ⟨_, _, rfl, .inr (.inr (.inl ⟨p1, k, vs1, rfl, rfl, t1, by omega, by omega, ?_, q _ [] H ⟨p1, vs1, rfl, t1, r1⟩ Fresh.refl⟩))⟩
      exact hor.imp (fun e => by subst e; exact List.length_eq_zero_iff.mp l1) id
    · split at h
      · rename_i hz
        cases h
        simp only [Bool.and_eq_true] at hz
        have e1 := reps_pure a vs1 F hz.1.1 r1
        subst e1
        have l1 := reps_length r1
        have hk := of_decide_eq_true hz.2
        have hne := of_decide_eq_true hz.1.2
        refine ⟨_, _, rfl, .inr (.inr (.inr (.inl ⟨p1, k, vs1, rfl, rfl, t1, fun e => hne ?_, hk.1, hk.2.1, by omega, fun p hp => q _ [] _ ⟨p, _, rfl, SqT.of upd_same, (Fresh.at0 hp).kreps (reps_rep r1 _)⟩ (Fresh.at0 hp)⟩)))⟩
        subst e
        exact List.length_eq_zero_iff.mp l1.symm
      · cases h
  · rename_i a k
    obtain ⟨x, y, F, G, rfl, ⟨p1, vs1, G1, rfl, t1, rfl, n1, r1⟩, ⟨rfl, _⟩⟩ := Vw.two vw
    split at h
    · rename_i hz
      cases h
      simp only [Bool.and_eq_true] at hz
      have e1 := reps_pure a vs1 G1 hz.1.1 r1
      subst e1
      have l1 := reps_length r1
      have hk := of_decide_eq_true hz.1.2
      refine ⟨_, _, rfl, .inr (.inr (.inr (.inr ⟨p1, k, vs1, rfl, rfl, t1, by omega, by omega, by rw [l1]; exact smallB_iff hz.2, fun p hp => q _ [p] _ ⟨p, _, [], rfl, upd_same, rfl, by simp, (Fresh.at0 hp).kreps (reps_rep r1 _)⟩ (Fresh.at1 hp)⟩)))⟩
    · cases h
  · cases h
def divB (_ j : Int) : Bool := decide (0 < j) && decide (j.natAbs.log2 < 9000)
def fDiv : List D → Option D := fI divB fun i j => .int (i / j)
def fMod : List D → Option D := fI (fun _ j => decide (0 < j)) fun i j => .int (i % j)
def fPow : List D → Option D := fI (fun i j => decide (0 ≤ j ∧ j ≤ 1000000) && decide (i.natAbs < 2 ^ 64)) fun i j => .int (i ^ j.toNat)
def fSub : List D → Option D := fI0 fun i j => .int (i - j)
def fLt : List D → Option D := fI0 fun i j => .bl (decide (i < j))
def fLe : List D → Option D := fI0 fun i j => .bl (decide (i ≤ j))
def fGt : List D → Option D := fI0 fun i j => .bl (decide (j < i))
def fGe : List D → Option D := fI0 fun i j => .bl (decide (j ≤ i))
theorem rn_div : RN K (r2L (L2.rI CDivW fun i j => .int (i / j))) fDiv := rn_int (fun i j h => by
  unfold divB at h
  rw [Bool.and_eq_true] at h
  exact ⟨of_decide_eq_true h.1, of_decide_eq_true h.2⟩) fun _ _ _ => ⟨rfl, rfl⟩
theorem rn_mod : RN K (r2L (L2.rI (fun _ j => 0 < j) fun i j => .int (i % j))) fMod := rn_int (fun i j h => of_decide_eq_true h) fun _ _ _ => ⟨rfl, rfl⟩
theorem rn_pow : RN K (r2L (L2.rI CPow fun i j => .int (i ^ j.toNat))) fPow := rn_int (fun i j h => by
  rw [Bool.and_eq_true] at h
  have h1 := of_decide_eq_true h.1
  exact ⟨h1.1, h1.2, of_decide_eq_true h.2⟩) fun _ _ _ => ⟨rfl, rfl⟩
theorem rn_sub : RN K (r2L (rI0 fun i j => .int (i - j))) fSub := rn_int0 fun _ _ _ => ⟨rfl, rfl⟩
theorem rn_lt : RN K (r2L (rI0 fun i j => .bl (decide (i < j)))) fLt := rn_int0 fun _ _ _ => ⟨rfl, rfl⟩
theorem rn_le : RN K (r2L (rI0 fun i j => .bl (decide (i ≤ j)))) fLe := rn_int0 fun _ _ _ => ⟨rfl, rfl⟩
theorem rn_gt : RN K (r2L (rI0 fun i j => .bl (decide (j < i)))) fGt := rn_int0 fun _ _ _ => ⟨rfl, rfl⟩
theorem rn_ge : RN K (r2L (rI0 fun i j => .bl (decide (j ≤ i)))) fGe := rn_int0 fun _ _ _ => ⟨rfl, rfl⟩
/-! ### repr -/
def rReprD (K : PySem.W.Frag) : List V → Hp → VK → Prop := fun vs H Q => ∃ a d, vs = [V.ref a] ∧ Dp K H (.ref a) d ∧ d.showable = true ∧ d.hasDict = false ∧ d.depth ≤ 64 ∧ d.shown.length ≤ sizeLine ∧ Q (.str d.shown) H
theorem call_reprD (hg : X.A.guards = some []) (hu : X.A.units + 80 < cLine) : CallR X (.builtin "repr") (rReprD X.K) := by
  intro pins s σ H xs us Q I r h
  obtain ⟨a, d, rfl, hd, hs, hn, hp, hz, q⟩ := h
  obtain ⟨u, rfl, rfl⟩ := vals1 r
  obtain ⟨as, rd⟩ := Dp.reads I d _ _ hd rfl
  exact repr_of_reads' rd hs (fun e => by rw [hn] at e; cases e) hg (by omega) (fun _ _ e => e) (fun h' u tk hk => ⟨.str _, H, I.kept (t' := tk) hk, ⟨_, rfl⟩, q⟩) hz
end
end TQ
set_option maxHeartbeats 4000000
namespace TQ
open PySem PySem.Spec PyProof.Rows L2
section
variable {T : List (Addr × Str)} {X : Cx} {W : WX} {H H1 H' : Hp} {P P1 P' : Addr → Prop} {σ : Sg} {kp js : List Nat} {K : PySem.W.Frag}
/-! ### repr -/
mutual
theorem py_nodict : ∀ d : D, d.py.hasDict = false
  | .non => rfl
  | .bl _ => rfl
  | .int _ => rfl
  | .str _ => rfl
  | .opq _ => rfl
  | .tup l => by simpa [D.py, PyData.hasDict] using pyL_nodict l
  | .lst l => by simpa [D.py, PyData.hasDict] using pyL_nodict l
  | .frl l => by simpa [D.py, PyData.hasDict] using pyL_nodict l
theorem pyL_nodict : ∀ l : List D, PyData.hasDictAll (pyL l) = false
  | [] => rfl
  | d :: l => by simp [pyL, PyData.hasDictAll, py_nodict d, pyL_nodict l]
end
def D.isSeq : D → Bool
  | .tup _ => true
  | .lst _ => true
  | .frl _ => true
  | _ => false
def fRepr : List D → Option D := fun l => match l with
  | [d] => if d.isSeq && (d.okd && decide (d.dep ≤ 64)) && (d.py.showable && decide (d.py.shown.length ≤ sizeLine)) then some (.str d.py.shown) else none
  | _ => none
theorem isSeq_ref {d : D} {v : V} {F : List Addr} (h : d.isSeq = true) (r : rep K H d v F) : ∃ a, v = .ref a := by
  cases d with
  | tup l => obtain ⟨a, _, e, _⟩ := r; exact ⟨a, e⟩
  | lst l => obtain ⟨a, _, _, e, _⟩ := r; exact ⟨a, e⟩
  | frl l => obtain ⟨a, _, e, _⟩ := r; exact ⟨a, e⟩
  | _ => cases h
theorem rn_repr : RN K (rReprD K) fRepr := fun H vs ds d' Q vw h q => by
  unfold fRepr at h
  split at h
  · rename_i d
    obtain ⟨x, F, rfl, r⟩ := Vw.one vw
    split at h
    · rename_i hz
      cases h
      simp only [Bool.and_eq_true] at hz
      obtain ⟨⟨h1, h2, h3⟩, h4, h5⟩ := hz
      obtain ⟨a, rfl⟩ := isSeq_ref h1 r
      exact ⟨a, d.py, rfl, dp_of d _ F h2 r, h4, py_nodict d, by rw [py_dep]; exact of_decide_eq_true h3, of_decide_eq_true h5, q _ [] H ⟨rfl, rfl⟩ Fresh.refl⟩
    · cases h
  · cases h
/-! ### f(k = e, ..) -/
structure SK (T : List (Addr × Str)) (X : Cx) (W : WX) (kws : List Keyword) (ms : M (List Opd)) : Prop where
  run : PK X kws (tA T X W ms)
theorem sk_nil : SK T X W [] mNil := ⟨⟨fun pos pins s σ H Q I h => pk_nil.run pos pins s σ H Q I (tA_nil h)⟩⟩
theorem sk_cons {nm : Option Str} {e : Expr} {kpos : Pos} {kws : List Keyword} {m : M Opd} {ms : M (List Opd)} (h : SO T X W e m) (hs : SK T X W kws ms) : SK T X W (⟨nm, e, kpos⟩ :: kws) (mCons m ms) :=
  ⟨⟨fun pos pins s σ H Q I q => (pk_cons h.run hs.run).run pos pins s σ H Q I (tA_cons q)⟩⟩
/-- items in another order -/
def permL {α : Type} (pm : List Nat) (l : List α) : List α := pm.filterMap (l[·]?)
/-- the arguments' values, all pure, in another order -/
def mPerm (pm : List Nat) (ms : M (List Opd)) : M (List Opd) := mBind ms fun os s => match getAll s os with
  | some dl => if pureL dl then .ok ((permL pm dl).map Opd.own) s else .stuck
  | none => .stuck
theorem vw_reps {dl : List D} : ∀ {vs : List V}, Vw K H dl vs → pureL dl = true → reps K H dl vs [] := by
  induction dl with
  | nil => intro vs h _; exact ⟨h, rfl⟩
  | cons d dl ih =>
    intro vs ⟨v, us, F, e, r, h⟩ p
    rw [pureL, Bool.and_eq_true] at p
    exact ⟨v, us, [], [], e, rfl, (fun _ z => by cases z), rep_pure0 p.1 r, ih h p.2⟩
theorem perm_rA {dl : List D} {vs : List V} (r : reps X.K H dl vs []) (p : pureL dl = true) : ∀ pm : List Nat, rA X σ H ((permL pm dl).map Opd.own) (permL pm vs) []
  | [] => ⟨rfl, rfl⟩
  | i :: pm => by
    have hl := reps_length r
    have ih := perm_rA r p pm
    unfold permL at ih ⊢
    cases e : dl[i]? with
    | none =>
      have e2 : vs[i]? = none := List.getElem?_eq_none (by rw [hl]; exact List.getElem?_eq_none_iff.mp e)
      rw [List.filterMap_cons, List.filterMap_cons, e, e2]
      exact ih
    | some d =>
      obtain ⟨v, F1, e2, r1, _⟩ := reps_get r e
      rw [List.filterMap_cons, List.filterMap_cons, e, e2]
      exact ⟨v, _, [], [], rfl, rfl, (fun _ z => by cases z), rep_pure0 (pureL_mem p (List.mem_of_getElem? e)) r1, ih⟩
theorem tA_perm {pm : List Nat} {ms : M (List Opd)} {R : List V → Hp → Prop} (h : tA T X W (mPerm pm ms) σ H R) : tA T X W ms σ H fun vs H1 => R (permL pm vs) H1 := by
  refine tM_bind h fun os ds1 vs F H1 Fs1 r R1 dj p => ?_
  cases e : getAll ds1 os with
  | none => simp only [e] at p; exact p.elim
  | some dl =>
    simp only [e] at p
    by_cases hp : pureL dl = true
    · rw [if_pos hp] at p
      refine p _ [] H1 Fs1 (perm_rA (vw_reps (rA_get r R1 e) hp) hp pm) R1 (fun _ z => by cases z) ?_
      exact (Step.refl fun a z => z.elim (rA_mu r a) (R1.mu a)).less fun a z => z.elim (fun y => by cases y) .inr
    · rw [if_neg hp] at p; exact p.elim
/-- a def that is called by names -/
structure CalK (T : List (Addr × Str)) (P : Program) (w : World) (K : PySem.W.Frag) (mg : Str → Option Value) (base : Heap) (k : Nat) (x : Str) (np : Nat) (gd : Bool) (ks : List Str) (pm : List Nat) (g : FM) : Prop where
  ex : ∃ (f : Addr) (fd : FuncData) (ps : List Str), FnG T P w K mg base k f fd ps np gd g ∧ mg x = some (.ref f) ∧ PySem.W.keepIn K (.ref f) = true ∧ (∀ (s : Shared) (ws : List Value), ws.length = ks.length → BindsTo s fd ⟨[], ks.zip ws⟩ (ps.zip (permL pm ws)))
theorem permL_vals : ∀ {pm : List Nat} {vs : List V} {us : List Value}, Vals vs us → Vals (permL pm vs) (permL pm us)
  | [], _, _, _ => .nil
  | i :: pm, vs, us, r => by
    have ih := permL_vals (pm := pm) r
    unfold permL at ih ⊢
    cases e : vs[i]? with
    | none =>
      have e2 : us[i]? = none := List.getElem?_eq_none (by rw [← r.length]; exact List.getElem?_eq_none_iff.mp e)
      rw [List.filterMap_cons, List.filterMap_cons, e, e2]
      exact ih
    | some v =>
      obtain ⟨u, e2, ru⟩ := r.get e
      rw [List.filterMap_cons, List.filterMap_cons, e, e2]
      exact .cons ru ih
theorem len_perm {pm : List Nat} {ms : M (List Opd)} {n np : Nat} (hn : Len ms n) (hp : ∀ {α : Type} (l : List α), l.length = n → (permL pm l).length = np) : Len (mPerm pm ms) np := fun ds os s h => by
  unfold mPerm mBind at h
  cases e : ms ds with
  | exc c w s => rw [e] at h; cases h
  | stuck => rw [e] at h; cases h
  | ok os' s' =>
    rw [e] at h
    simp only at h
    cases e2 : getAll s' os' with
    | none => rw [e2] at h; cases h
    | some dl =>
      rw [e2] at h
      simp only at h
      by_cases hq : pureL dl = true
      · rw [if_pos hq] at h
        have l1 := hn _ _ _ e
        have : ∀ {os : List Opd} {dl : List D}, getAll s' os = some dl → dl.length = os.length := by
          intro os
          induction os with
          | nil => intro dl z; cases z; rfl
          | cons o os ih =>
            intro dl z
            unfold getAll at z
            cases a1 : o.get s' with
            | none => rw [a1] at z; cases z
            | some d =>
              cases a2 : getAll s' os with
              | none => rw [a1, a2] at z; cases z
              | some l => rw [a1, a2] at z; cases z; simp [ih a2]
        have l2 := this e2
        cases h
        rw [List.length_map]
        exact hp _ (by rw [l2, l1])
      · rw [if_neg hq] at h; cases h
theorem so_callK {k j : Nat} {x : Str} {np : Nat} {gd : Bool} {g : FM} {ks : List Str} {pm : List Nat} {kws : List Keyword} {ms : M (List Opd)} {p pos : Pos} (c : CalK T X.prog X.w X.K X.mg X.base k x np gd ks pm g) (hr : Room j X.A) (hk : k ≤ j) (hgd : gd = true → X.A.guards = some []) (tk : Takes X W) (hg : Gl X x) (ha : SK T X W kws ms) (hn : Len ms ks.length)
    (hpm : ∀ {α : Type} (l : List α), l.length = ks.length → (permL pm l).length = np) (hall : (backToKw pos (keywordEach kws X.env)).all (·.1.isSome) = true := by rfl) (hks : (backToKw pos (keywordEach kws X.env)).filterMap (·.1) = ks := by rfl)
    (hdb : (x == ("__debug__" : Str)) = false := by decide) (hpl : ((backTo pos (starEach [] X.env)).any (·.1) || (backToKw pos (keywordEach kws X.env)).any (·.1.isNone)) = false := by rfl) : SO T X W (.Call (.Name x p) [] kws pos) (mCall g (mPerm pm ms)) := by
  obtain ⟨f, fd, ps, F, hm, hkp, hb⟩ := c.ex
  refine ⟨⟨fun pins s σ H Q I q => wpAny_Call_Name_kw (ld_glob I hg hm ?_ hdb)⟩⟩
  have q1 := tA_perm (tA_call (len_perm hn hpm) q)
  have q2 : tA T X W ms σ H fun vs H1 => vs.length = ks.length ∧ spF T X.K X.mg np g (permL pm vs) H1 Q (WE W σ) := by
    obtain ⟨ds2, Fs2, R2, p2⟩ := q1
    refine ⟨ds2, Fs2, R2, ?_⟩
    cases e : ms ds2 with
    | exc c w s => rw [e] at p2; exact p2
    | stuck => rw [e] at p2; exact p2
    | ok os s =>
      rw [e] at p2
      intro vs F H' Fs' h1 h2 h3 h4
      exact ⟨by rw [rA_len h1]; exact hn _ _ _ e, p2 vs F H' Fs' h1 h2 h3 h4⟩
  refine PySem.W.callWith_KW0 (h₀ := X.base) I.ok.mod.kin hkp hall (thn (ha.run.run pos pins s σ H _ I q2) fun ws s2 ⟨zs, H2, I2, rz, hl, q3⟩ => ⟨I2.kIn, ?_⟩) hpl
  rw [hks]
  have b := hb s2 ws (by rw [← rz.length]; exact hl)
  refine wpAny_call (codeAny_mono (run_fnG (vs := permL pm zs) F (hr.mono hk) hgd tk I2 b (permL_vals rz) q3) fun r s' hq => ?_)
  match r, hq with
  | .error e, hq => exact hq
  | .ok (.ret u), hq => exact hq
/-! ### heard(lambda: e), where nothing is raised -/
/-- try: return ("told", a()) / except ..: .. -/
def TThru : (XK → Hp → VK → Prop) → Hp → VK → Prop := fun tl H Q => tl C8.E0 H fun v H1 => [V.str "told", v].length ≤ sizeLine ∧ ∀ p, H1 p = none → Q (.ref p) (upd H1 p (.tup [.str "told", v]))
theorem thru_gives {Ng : List Str} {x a q : Str} {sg : Scope} {g : Addr} {cdg : Value} {j jj : Nat} {h₀ : ExceptHandler} {hs : List ExceptHandler} {p0 p1 p2 p3 p4 p8 : Pos} (h0 : ∀ f : Addr, (L2.start Ng [V.ref f])[0]? = some (some (V.ref f)))
    (hst : ∀ X : Cx, starEach [.Constant (.str "told") j p0, .Call (.Name a p1) [] [] p2] X.env = (false, eval (.Constant (.str "told") j p0) X.env) :: starEach [.Call (.Name a p1) [] [] p2] X.env := by intro _; rfl) (hst2 : ∀ X : Cx, starEach [.Call (.Name a p1) [] [] p2] X.env = (false, eval (.Call (.Name a p1) [] [] p2) X.env) :: starEach [] X.env := by intro _; rfl) :
    LamX.GivesTo X Ng x sg g cdg [.Try [.Return (some (.Tuple [.Constant (.str "told") j p0, .Call (.Name a p1) [] [] p2] jj p3)) p4] (h₀ :: hs) [] [] p8] a q TThru := by
  intro f c' s H Q tl act hc h
  have hp := act (fun _ _ _ _ => False) (cxOf C8.CX0 X.prog X.w X.K X.mg X.base Ng x sg g cdg X.A X.stack s H C8.E0).pn (fun _ _ => False) C8.E0 p1 p2 LamX.takes0 (fun _ _ _ _ z => z.elim)
  refine ⟨_, pss_one (ps_try_thru0 (X := (cxOf C8.CX0 X.prog X.w X.K X.mg X.base Ng x sg g cdg X.A X.stack s H C8.E0).nox) (pss_one (ps_ret (pe_tup (pa_cons pe_str (pa_cons hp pa_nil (hst2 _)) (hst _)))))), ?_⟩
  refine ⟨h0 f, hc, ?_⟩
  exact h
def mHeard (m : M Opd) : M Opd := fun s => match m s with
  | .ok o s' => (match toOwn o s' with
    | .ok d s2 => .ok (.own (.tup [.str "told", d])) s2
    | _ => .stuck)
  | _ => .stuck
theorem tM_mono {α β : Type} {rel : Rl α β} {m : M α} {Q Q' : β → Hp → Prop} (h : tM T X W rel m σ H Q) (hq : ∀ b H, Q b H → Q' b H) : tM T X W rel m σ H Q' := tM_imp h hq
theorem tLam_of {m : M Opd} {Q : VK} (q : tO T X W (mHeard m) σ H Q) : LamX.tLam T TThru (fun _ => tO T X W0 m) σ H Q := by
  obtain ⟨ds, Fs, R, p⟩ := q
  refine ⟨R.tab, fun H1 eN T1 => ?_⟩
  have st0 : Step T H (fun _ => False) H1 (fun _ => False) := ⟨fun _ z => z.elim, fun a o e _ n => eN a o e n, fun _ _ z => z.elim, fun _ => T1⟩
  have st1 : Step T H (InF Fs) H1 (InF Fs) := ⟨R.mu, fun a o e _ n => eN a o e n, fun _ _ z _ _ => z, fun _ => T1⟩
  have R1 : SRel (gx T X) H1 σ ds Fs := R.step (G := gx T X) st0 fun _ _ z => z
  refine ⟨ds, Fs, R1, ?_⟩
  unfold mHeard at p
  cases e : m ds with
  | stuck => simp only [e] at p; exact p.elim
  | exc c w s => simp only [e] at p; exact p.elim
  | ok o s' =>
    simp only [e] at p
    intro v F H2 Fs2 r R2 dj st
    refine ⟨by rw [sizeLine_eq]; show 2 ≤ _; omega, fun pa hp => ?_⟩
    cases e2 : toOwn o s' with
    | stuck => simp only [e2] at p; exact p.elim
    | exc c w s => simp only [e2] at p; exact p.elim
    | ok d s2 =>
      simp only [e2] at p
      obtain ⟨F3, Fs3, r3, R3, dj3, sub3, sub4⟩ := toOwn_ok r R2 dj e2
      have fr : Fresh H2 (upd H2 pa (.tup [.str "told", v])) [] := Fresh.at0 hp
      refine p (.ref pa) F3 _ Fs3 ⟨pa, [.str "told", v], rfl, SqT.of upd_same, .str "told", [v], [], F3, rfl, rfl, (fun _ z => by cases z), ⟨rfl, rfl⟩, v, [], F3, [], rfl, by simp, (fun _ _ z => by cases z), fr.krep r3, ⟨rfl, rfl⟩⟩ (R3.fresh fr) dj3 ?_
      have s5 := (st1.trans st).trans (fr.step (T := T) (P := fun x => x ∈ F ∨ InF Fs2 x) fun a z => z.elim (rO_mu r a) (R2.mu a))
      refine s5.less fun a z => ?_
      rcases z with z | z
      · exact .inr (sub3 a z)
      · exact .inr (.inr (sub4 a z))
theorem so_heard {x a : Str} {g c Pt : Addr} {k j : Nat} {pg : Arguments} {bg : List Stmt} {sg : Scope} {dV kV doc pm cdv ct oc : Value} {an od : Option Addr} {osl : Array (Option Value)} {Ng : List Str}
    {params : Arguments} {body : Expr} {scope : Scope} {m : M Opd} {p lpos pos : Pos} (hg : Gl X x) (hm : X.mg x = some (.ref g)) (hk : PySem.W.keepIn X.K (.ref g) = true)
    (lk : X.K.lookup g = some ⟨oc, od, .func (PySem.W.fnOf x x pg bg sg dV kV doc pm an cdv ct), osl⟩) (hcg : PySem.W.codeIn X.K cdv x = true) (hb : L2.Binds X.K (PySem.W.fnOf x x pg bg sg dV kV doc pm an cdv ct) [a] []) (Sg : FnScope Ng [a] sg) (hNg : Ng[0]? = some a) (hva : Vis sg a)
    (hG : LamX.GivesTo X Ng x sg g cdv bg a (X.env.qual ++ "<lambda>") TThru)
    (TB : LamX.TabB X.base X.mg c Pt) (hcode : X.env.code = .ref c) (hmT : (Pt, X.env.qual ++ "<lambda>") ∈ T) (hu : ∀ p ∈ T, p.1 = Pt → p.2 = X.env.qual ++ "<lambda>") (hr : Room j X.A) (hj : k + 2 ≤ j) (L : LamX.LamS X.env.scope scope) (hdef : defaultsOf params X.env = ([], []))
    (hbind : ∀ (q : Str) (cl : List (Str × Addr)) (pm cv ctv : Value), bindArgs (PySem.W.kla_fn "<lambda>" q params body scope cl pm cv ctv) ⟨[], []⟩ = pure [])
    (hbody : ∀ (A : Around) (outer : List Env) (s : Shared) (H : Hp) (E : XK) (f c' : Addr), Room k (A.deeper (LamX.lamEnv X scope s.heap.objs.size f c')) → SO T (LamX.lamCx X A outer s H E scope f c') W0 body m)
    (hdb : (x == ("__debug__" : Str)) = false := by decide) (hd : (a == ("__debug__" : Str)) = false := by decide) (hcd : (a == ("__classdict__" : Str)) = false := by decide) :
    SO T X W (.Call (.Name x p) [.Lambda params body scope lpos] [] pos) (mHeard m) :=
  ⟨PE.imp (LamX.pe_lamcall (T := T) (TT := TThru) (t := fun _ => tO T X W0 m) hg hm hk lk hcg hb Sg hNg hva hG TB hcode hmT hu (hr.mono hj) L hdef hbind (fun A outer s H E f c' hr2 => (hbody A outer s H E f c' hr2).run) hdb hd hcd) fun σ H Q q => tLam_of q⟩
end
end TQ
set_option maxHeartbeats 4000000
namespace TQ
open PySem PySem.Spec PyProof.Rows L2
/-! ### enumerate(tuple) -/
theorem meets_enumerate_newT (l : Addr) (items : Array Value) (n : Nat) (dct : Option Addr) (sl : Array (Option Value)) :
    Meets (Builtin.«enumerate.__new__» ⟨[.type "enumerate", .ref l], []⟩) (fun _ R s => s.heap.get? l = some { cls := .type "tuple", dict := dct, data := .seq items n, slots := sl } ∧
      R (.ok (.ret (.ref (s.heap.push { cls := .type "tuple_iterator", data := .fields #[.ref l, .int 0 0] }).objs.size)))
        { s with heap := (s.heap.push { cls := .type "tuple_iterator", data := .fields #[.ref l, .int 0 0] }).push { cls := .type "enumerate", data := .fields #[.none, .bool false, .ref s.heap.objs.size, rawInt 0, .none, .none] } }) :=
  .of_wp fun prog w A R s h => by
    obtain ⟨hp, g, d, tk, os⟩ := s; obtain ⟨hl, h⟩ := h
    have hsub := sub_enumerate
    have hL : Heap.IsTuple (Shared.heap ⟨hp, g, d, tk, os⟩) l items := ⟨_, hl, rfl, n, rfl⟩
    wp_walk using AutoSeq1.wpAny_loadPart' hl
    refine wpAny_stack_any fun st => wpAny_pure ?_
    split
    · rename_i c _ _ _ _ _
      cases (c == Value.type "enumerate")
      · wp_walk using AutoSeq1.wpAny_loadPart' hl, wpAny_pyIter_tuple hL
        exact ⟨_, rfl, h⟩
      · wp_walk using AutoSeq1.wpAny_loadPart' hl, wpAny_pyIter_tuple hL
        exact ⟨_, rfl, h⟩
    · wp_walk using AutoSeq1.wpAny_loadPart' hl, wpAny_pyIter_tuple hL
      exact ⟨_, rfl, h⟩
section
variable {prog : Program} {w : World} {A : Around} {E : Value → Shared → Prop} {s : Shared}
theorem call_enumerate_tuple {l : Addr} {items : Array Value} {Q : Value → Shared → Prop} (hL : s.heap.IsTuple l items)
    (h : ∀ h', IsEnum h' (s.heap.objs.size + 1) s.heap.objs.size 0 .none → h'.IsTupleIter s.heap.objs.size l 0 → h'.objs.size = s.heap.objs.size + 2 →
      (∀ b o, s.heap.get? b = some o → h'.get? b = some o) → Q (.ref (s.heap.objs.size + 1)) { s with heap := h' }) :
    wpAny (model prog w) A (call (.type "enumerate") [.ref l]) Q E s := by
  obtain ⟨⟨c, dct, dt, sl⟩, hl, hc, n, hd⟩ := hL
  replace hc : c = .type "tuple" := hc
  replace hd : dt = .seq items n := hd
  subst hc hd
  refine callType_new F.called_enumerate (by decide) (F.typeCall_enumerate_1 _) (F.newCall_enumerate_1 _) (fun obj => F.args_object_init_2 obj _) F.entry_enumerate_new
    (meets_enumerate_newT l items n dct sl) ⟨hl, ?_⟩
  have hz : (s.heap.push { cls := .type "tuple_iterator", data := .fields #[.ref l, .int 0 0] }).objs.size = s.heap.objs.size + 1 := Heap.size_push ..
  show _ ∧ _
  rw [hz]
  have he : IsEnum ((s.heap.push { cls := .type "tuple_iterator", data := .fields #[.ref l, .int 0 0] }).push
      { cls := .type "enumerate", data := .fields #[.none, .bool false, .ref s.heap.objs.size, rawInt 0, .none, .none] }) (s.heap.objs.size + 1) s.heap.objs.size 0 .none := by
    have := Heap.get?_push_size (s.heap.push { cls := .type "tuple_iterator", data := .fields #[.ref l, .int 0 0] })
      (o := { cls := .type "enumerate", data := .fields #[.none, .bool false, .ref s.heap.objs.size, rawInt 0, .none, .none] }) rfl
    rw [hz] at this; exact this
  refine ⟨⟨_, he, rfl⟩, h _ he ⟨_, Heap.get?_push_of_some _ (Heap.get?_push_size _ rfl), rfl, rfl⟩ (by rw [Heap.size_push, hz]) fun b o x => Heap.get?_push_of_some _ (Heap.get?_push_of_some _ x)⟩
end
/-- the tuple at a, each item in a new pair -/
def Itet (K : PySem.W.Frag) (a : Addr) : It :=
  ⟨fun i H => ∃ (xs : List V) (x : V), SqT K H a xs ∧ xs[i]? = some x, fun i H v H' => ∃ T x, v = .ref T ∧ H T = none ∧ H' = upd H T (.tup [.int (i : Nat), x]) ∧ ∀ xs, SqT K H a xs → xs[i]? = some x, fun i H => ∃ xs : List V, SqT K H a xs ∧ xs.length ≤ i⟩
theorem turn_enumT {P : Program} {w : World} {K : PySem.W.Frag} {elts : List Expr} {kk : Nat} {tpos : Pos} (a e it : Addr) :
    Turn P w K (.Tuple elts kk tpos) (Itet K a) [e, it] e (fun i h => (∃ old, IsEnum h e it ((i : Nat) : Int) old) ∧ h.IsTupleIter it a i ∧ e ≠ it) where
  mem := by simp
  obj := fun i h st b hb => by
    obtain ⟨⟨old, he⟩, ⟨o, ho, hc, hd⟩, _⟩ := st
    have e' : b = e ∨ b = it := by simpa using hb
    rcases e' with z | z
    · rw [z]; exact ⟨_, he, fun v q => nomatch q⟩
    · rw [z]; exact ⟨o, ho, fun v q => by rw [hd] at q; cases q⟩
  keep := fun i h h' st k => let ⟨⟨old, he⟩, hi, hne⟩ := st; ⟨⟨old, k e (by simp) _ he⟩, hi.at fun o q => k it (by simp) o q, hne⟩
  item := by
    intro X hP hw hK hc i pins s σ H E I hf st hg
    subst hP hw hK
    obtain ⟨⟨old, he⟩, hit, hne⟩ := st
    obtain ⟨xs, x, hq, hx⟩ := hg
    obtain ⟨its, rv, p, hz⟩ := I.tuple hq
    obtain ⟨u, hu, ru⟩ := rv.get hx
    have hel : e < s.heap.objs.size := Heap.lt_size he
    have hil : it < s.heap.objs.size := by obtain ⟨_, q, _⟩ := hit; exact Heap.lt_size q
    have n1 : a ≠ it := fun z => by
      obtain ⟨o, ho, hc1, _⟩ := p
      obtain ⟨o2, ho2, hc2, _⟩ := id hit
      rw [z, ho2] at ho; cases ho; rw [hc2] at hc1; injection hc1 with q; exact absurd q (by decide)
    have n2 : e ≠ a := fun z => by
      obtain ⟨o, ho, hc1, _⟩ := p
      have he' := he
      unfold IsEnum at he'
      rw [← z, he'] at ho; cases ho; injection hc1 with q; exact absurd q (by decide)
    have hiu : its.toArray[i]? = some u := by simpa using hu
    have hi : i < its.toArray.size := (Array.getElem?_eq_some_iff.mp hiu).1
    refine wpAny_pyNext_enum_itemD (Draws.tuple (A := X.A.in1) (show X.A.in1.handled = none from I.ok.hd hc) it a n1 its.toArray) he ⟨hit, p⟩ hi hne (by simp [hne, n2]) fun x' h' tk hx' ho hst' hT hsz hk => ?_
    rw [hiu] at hx'
    cases hx'
    have hit' := hst'.1
    refine ⟨_, rfl, wpAny_letOwnedTupleGo_enum (s := { s with heap := h', toks := tk + 1 }) ho fun h'' he' sb => ?_⟩
    have hT2 : h''.get? s.heap.objs.size = some { cls := .type "tuple", data := .seq #[.int i tk, u] } := (sb.2 _ (Nat.ne_of_gt hel)).trans hT
    have new : ObjOk X.prog X.w (upd H s.heap.objs.size (.tup [.int (i : Nat), x])) h'' s.heap.objs.size (.tup [.int (i : Nat), x]) :=
      ⟨by show 2 ≤ sizeLine; decide, [.int i tk, u], .cons ⟨_, rfl⟩ (.cons ru .nil), ⟨_, hT2, rfl, _, rfl⟩⟩
    have I1 : Inv X pins σ (upd H s.heap.objs.size (.tup [.int (i : Nat), x])) { s with heap := h'', toks := tk + 1 } :=
      I.turnedNew (ch := [e, it]) (fun b ob hb q => (sb.2 b (fun z => hb (by simp [z]))).trans (hk b ob (fun z => hb (by simp [z])) (fun z => hb (by simp [z])) q)) hf (Nat.le_refl _) new
    refine ⟨.ref s.heap.objs.size, _, I1, rfl, ⟨_, x, rfl, I.hok.fresh (Nat.le_refl _), rfl, fun ys hy => by rw [I.tuple_inj hy hq]; exact hx⟩, ⟨⟨u, ?_⟩, hit'.at fun o q => (sb.2 it (Ne.symm hne)).trans q, hne⟩, fun b hb => ?_⟩
    · have e1 : ((i + 1 : Nat) : Int) = (i : Int) + 1 := by omega
      rw [e1]; exact he'
    · have hb' : b < s.heap.objs.size := by
        have e' : b = e ∨ b = it := by simpa using hb
        rcases e' with z | z
        · rw [z]; exact hel
        · rw [z]; exact hil
      rw [upd_ne (Nat.ne_of_lt hb')]
      exact (hf b hb).1
  done := by
    intro X hP hw hK hc i pins s σ H E I hf st hg
    subst hP hw hK
    obtain ⟨⟨old, he⟩, hit, hne⟩ := st
    obtain ⟨xs, hq, hx⟩ := hg
    obtain ⟨its, rv, p, hz⟩ := I.tuple hq
    obtain ⟨f0, f1, f2, f3, f4, f5⟩ := hf it (by simp)
    have hl := rv.length
    have hT : s.TypeIs (.ref e) "enumerate" := ⟨_, he, rfl⟩
    unfold pyNext
    refine wpAny_bind (wpAny_attempt (wpAny_callSpecial?_slot (name := Str.ofString "__next__") hT F.slot_enumerate_next
      (wpAny_call_entry F.slot_enumerate_next hT F.entry_enumerate_next ?_ (F.args_enumerate_next_1 _))))
    show wpAny _ _ (field (.ref e) 2 >>= _) _ _ _
    refine wpAny_bind (wpAny_field he rfl (x := .ref it) rfl ?_)
    refine wpAny_bind (wpAny_nextOf_tuple_end (A := X.A.in1) (I.ok.hd hc) hit (show s.heap.IsTuple a its.toArray from p) (by simp; omega) fun h' x eb hx' => ?_)
    obtain ⟨o, ho, hc⟩ := hx'
    refine wpAny_bind (wpAny_isInstance (T := "StopIteration") (b := true) ⟨o, ho, hc⟩ isSubtype_stop ?_)
    exact wpAny_pure ⟨rfl, I.turned (t' := s.toks) (fun b o hb q => eb b o hb q) f0 f1 f3 f4 f5⟩
  self := fun A i s Q E st h => let ⟨⟨_, he⟩, _⟩ := st; wpAny_pyIter_enum he h
def iEnumA (K : PySem.W.Frag) (te : TE) : TI := fun σ H R => te σ H fun x H1 => ∃ a, x = .ref a ∧ (((∃ xs, SqL K H1 a xs) ∧ R (Ite K a) H1) ∨ ((∃ xs, SqT K H1 a xs) ∧ R (Itet K a) H1))
theorem pi_enumA {X : Cx} {e : Expr} {te : TE} {p pos tpos : Pos} {elts : List Expr} {kk : Nat} (hg : Gl X "enumerate") (hm : X.mg "enumerate" = none) (he0 : PE X e te) (hs : starEach [e] X.env = [(false, eval e X.env)] := by rfl) :
    PI X (.Tuple elts kk tpos) (.Call (.Name "enumerate" p) [e] [] pos) (iEnumA X.K te) := by
  refine ⟨fun pins s σ H R I h => ?_⟩
  have hs' : starEach [e] X.env = (false, eval e X.env) :: starEach [] X.env := hs
  refine Call_ (ld_blt I hg hm boot_enumerate (PyProof.Rows.callWith_type1 (thn ((pa_cons he0 pa_nil hs').run pos pins s σ H (fun vs H1 => match vs with | [x] => (∃ a, x = .ref a ∧ (((∃ xs, SqL X.K H1 a xs) ∧ R (Ite X.K a) H1) ∨ ((∃ xs, SqT X.K H1 a xs) ∧ R (Itet X.K a) H1))) | _ => False) I h) fun us s1 ⟨vs, H1, I1, r1, q1⟩ => ?_) hs rfl))
  cases r1 with
  | nil => exact q1.elim
  | cons r rr =>
    cases rr with
    | cons _ _ => exact q1.elim
    | nil =>
    obtain ⟨a, ex, q⟩ := q1
    subst ex
    cases r
    rcases q with ⟨⟨xs, hq⟩, q⟩ | ⟨⟨xs, hq⟩, q⟩
    · obtain ⟨its, rv, p', hz⟩ := I1.list hq
      refine call_enumerate_list p'.isList fun h' he hit hsz hk => wpAny_pyIter_enum he ?_
      have I2 : Inv X pins σ H1 { s1 with heap := h' } := I1.kept (t' := s1.toks) hk
      refine ⟨s1.heap.objs.size + 1, [s1.heap.objs.size + 1, s1.heap.objs.size], _, _, H1, rfl, I2, turn_enum a (s1.heap.objs.size + 1) s1.heap.objs.size, ⟨⟨.none, he⟩, hit, Nat.succ_ne_self _⟩, fun b hb => ?_, q⟩
      have e' : b = s1.heap.objs.size + 1 ∨ b = s1.heap.objs.size := by simpa using hb
      have hle : s1.heap.objs.size ≤ b := by
        rcases e' with z | z
        · rw [z]; exact Nat.le_add_right _ _
        · rw [z]; exact Nat.le_refl _
      exact I1.fpOk hle (I1.hok.fresh hle)
    · obtain ⟨its, rv, p', hz⟩ := I1.tuple hq
      refine call_enumerate_tuple (show s1.heap.IsTuple a its.toArray from p') fun h' he hit hsz hk => wpAny_pyIter_enum he ?_
      have I2 : Inv X pins σ H1 { s1 with heap := h' } := I1.kept (t' := s1.toks) hk
      refine ⟨s1.heap.objs.size + 1, [s1.heap.objs.size + 1, s1.heap.objs.size], _, _, H1, rfl, I2, turn_enumT a (s1.heap.objs.size + 1) s1.heap.objs.size, ⟨⟨.none, he⟩, hit, Nat.succ_ne_self _⟩, fun b hb => ?_, q⟩
      have e' : b = s1.heap.objs.size + 1 ∨ b = s1.heap.objs.size := by simpa using hb
      have hle : s1.heap.objs.size ≤ b := by
        rcases e' with z | z
        · rw [z]; exact Nat.le_add_right _ _
        · rw [z]; exact Nat.le_refl _
      exact I1.fpOk hle (I1.hok.fresh hle)
section
variable {T : List (Addr × Str)} {X : Cx} {W : WX} {H H1 H' : Hp} {P P1 P' : Addr → Prop} {σ : Sg} {kp js : List Nat} {K : PySem.W.Frag}
def enumD (l : List D) : List D := l.mapIdx fun i d => .tup [.int (i : Nat), d]
def enumI (g : ItS) : ItS := fun s => (g s).map enumD
theorem enumD_get {l : List D} {i : Nat} {d : D} (h : l[i]? = some d) : (enumD l)[i]? = some (.tup [.int (i : Nat), d]) := by
  unfold enumD
  rw [List.getElem?_mapIdx, h]; rfl
theorem enumD_len {l : List D} : (enumD l).length = l.length := by unfold enumD; simp
theorem rI_enum {g : ItS} {J J' : It} {F : List Addr} (h : rI T X js σ H g J F) (hgo : ∀ i H, J.go i H → J'.go i H) (hst : ∀ i H, J.stop i H → J'.stop i H)
    (hy : ∀ i H v H', J'.yld i H v H' → ∃ p x, v = .ref p ∧ H p = none ∧ H' = upd H p (.tup [.int (i : Nat), x]) ∧ J.yld i H x H) : rI T X js σ H (enumI g) J' F := by
  obtain ⟨mu, Hold, h0, h1, h2⟩ := h
  refine ⟨mu, Hold, h0, h1, fun i H σ' ds Fs l hh k R dj el => ?_⟩
  unfold enumI at el
  cases e : g ds with
  | none => rw [e] at el; cases el
  | some l0 =>
    rw [e] at el
    cases el
    obtain ⟨a1, a2⟩ := h2 i H σ' ds Fs l0 hh k R dj e
    rw [enumD_len]
    refine ⟨fun hi => ⟨hgo i H (a1 hi).1, fun x H' hx => ?_⟩, fun hi => hst i H (a2 hi)⟩
    obtain ⟨p, x', rfl, hp, rfl, y⟩ := hy i H x H' hx
    obtain ⟨d, e1, r, fr⟩ := (a1 hi).2 x' H y
    have f : Fresh H (upd H p (.tup [.int (i : Nat), x'])) [] := Fresh.at0 hp
    exact ⟨_, enumD_get e1, ⟨p, [.int (i : Nat), x'], rfl, SqT.of upd_same, .int (i : Nat), [x'], [], [], rfl, rfl, (fun _ z => by cases z), ⟨rfl, rfl⟩, x', [], [], [], rfl, rfl, (fun _ z => by cases z), f.krep r, ⟨rfl, rfl⟩⟩, f⟩
def mEnum (m : M Opd) : M ItS := mBind m fun o => mBind (itOf o) fun g => mRet (enumI g)
theorem si_enum {e : Expr} {m : M Opd} {p pos tpos : Pos} {elts : List Expr} {kk : Nat} (hg : Gl X "enumerate") (hm : X.mg "enumerate" = none) (h : SO T X W e m) (hjs : slotOf m js) (hs : starEach [e] X.env = [(false, eval e X.env)] := by rfl) :
    SI T X W js (.Tuple elts kk tpos) (.Call (.Name "enumerate" p) [e] [] pos) (mEnum m) := by
  refine ⟨PI.imp (pi_enumA hg hm h.run hs) fun σ H R q => ?_⟩
  have key : tM T X W (fun σ H o v F => rO X σ H o v F ∧ ∀ i, o = .nm i → i ∈ js) m σ H fun x H1 => ∃ a, x = .ref a ∧ (((∃ xs, SqL X.K H1 a xs) ∧ R (Ite X.K a) H1) ∨ ((∃ xs, SqT X.K H1 a xs) ∧ R (Itet X.K a) H1)) := by
    refine tM_bind q fun o ds1 v F H1 Fs1 r1 R1 dj p => ?_
    unfold mBind at p
    cases e : itOf o ds1 with
    | stuck => rw [e] at p; exact p.elim
    | exc c w s => exact (itOf_noexc e).elim
    | ok g s =>
      have es := itOf_same e
      subst es
      rw [e] at p
      obtain ⟨a, ea⟩ := itOf_ref r1.1 R1 e
      subst ea
      refine ⟨a, rfl, ?_⟩
      rcases seq_walk (vs := []) (l := []) (rO_mu r1.1) r1.1 R1 r1.2 e with ⟨h1, h2⟩ | ⟨h1, h2⟩
      · refine .inl ⟨h1, post_rI (α := Unit) R1 (rO_mu r1.1) dj p (rI_enum h2 (fun _ _ z => z) (fun _ _ z => z) fun i H v H' z => ?_) fun _ z => z⟩
        obtain ⟨p, x, e1, e2, e3, e4⟩ := z
        exact ⟨p, x, e1, e2, e3, rfl, e4⟩
      · refine .inr ⟨h1, post_rI (α := Unit) R1 (rO_mu r1.1) dj p (rI_enum h2 (fun _ _ z => z) (fun _ _ z => z) fun i H v H' z => ?_) fun _ z => z⟩
        obtain ⟨p, x, e1, e2, e3, e4⟩ := z
        exact ⟨p, x, e1, e2, e3, rfl, e4⟩
  obtain ⟨ds2, Fs2, R2, p2⟩ := key
  refine ⟨ds2, Fs2, R2, ?_⟩
  cases e : m ds2 with
  | exc c w s => rw [e] at p2; exact p2
  | stuck => rw [e] at p2; exact p2
  | ok o s =>
    rw [e] at p2
    intro v F H' Fs' h1 h2 h3 h4
    exact p2 v F H' Fs' ⟨h1, fun i ei => hjs ds2 i s (by rw [e, ei])⟩ h2 h3 h4
end
end TQ
set_option maxHeartbeats 4000000
namespace TQ
open PySem PySem.Spec PyProof.Rows L2
/-! ### the law's own call -/
def intsOf (ns : List Int) : List D := ns.map D.int
theorem ints_pure : ∀ ns : List Int, pureL (intsOf ns) = true
  | [] => rfl
  | n :: ns => by
    unfold intsOf
    rw [List.map_cons, pureL, Bool.and_eq_true]
    exact ⟨rfl, ints_pure ns⟩
theorem ints_reps {K : PySem.W.Frag} {H : Hp} : ∀ ns : List Int, reps K H (intsOf ns) (ns.map V.int) []
  | [] => ⟨rfl, rfl⟩
  | n :: ns => ⟨.int n, ns.map V.int, [], [], rfl, rfl, (fun _ z => by cases z), ⟨rfl, rfl⟩, ints_reps ns⟩
/-- the heap that the walk sees: the script (unless it is the text's), the tables -/
def headH (K : PySem.W.Frag) (a : Addr) (o : Obj) (ns : List Int) (ts : List Addr) : Hp := fun b => if b = a then (match K.lookup a with | none => some (.frz o (.lst (ns.map V.int))) | some _ => none) else if b ∈ ts then some (.tbl #[]) else none
section
variable {K : PySem.W.Frag} {a : Addr} {o : Obj} {ns : List Int} {ts : List Addr}
theorem headH_tab {P : Addr} (h : P ∈ ts) (n : P ≠ a) : headH K a o ns ts P = some (.tbl #[]) := by
  unfold headH
  rw [if_neg n, if_pos h]
theorem headH_some {b : Addr} {u : HO} (h : headH K a o ns ts b = some u) : (b = a ∧ K.lookup a = none ∧ u = .frz o (.lst (ns.map V.int))) ∨ (b ≠ a ∧ b ∈ ts ∧ u = .tbl #[]) := by
  unfold headH at h
  by_cases hb : b = a
  · rw [if_pos hb] at h
    cases e : K.lookup a with
    | none => rw [e] at h; cases h; exact .inl ⟨hb, rfl, rfl⟩
    | some x => rw [e] at h; cases h
  · rw [if_neg hb] at h
    by_cases ht : b ∈ ts
    · rw [if_pos ht] at h; cases h; exact .inr ⟨hb, ht, rfl⟩
    · rw [if_neg ht] at h; cases h
end
/-- what the head tells of the law's def: tables, promise -/
structure LawG (P : Program) (w : World) (K : PySem.W.Frag) (k n : Nat) (x : Str) (mg : Str → Option Value) (fa : Addr) (h : Heap) : Prop where
  ex : ∃ (fd : FuncData) (cs : List (Addr × Addr)) (T : List (Addr × Str)) (g : FM), (∀ p ∈ cs, h.get? p.2 = some { cls := .none, data := .fields #[] }) ∧ (∀ p ∈ cs, K.lookup p.2 = none) ∧ (∀ p ∈ cs, PySem.W.CodeHd h p.1 p.2) ∧ (∀ p ∈ T, p.1 ∈ cs.map (·.2)) ∧
    (∀ (s : Shared) (u : Value), BindsTo s fd ⟨[u], []⟩ [(x, u)]) ∧ (∀ ns : List Int, ns.length ≤ n → (∀ z ∈ ns, Builtin.Int.intBits z ≤ 1048576) → ∃ dl, g [.frl (intsOf ns)] = .ok (.bl true) dl) ∧
    ∀ base : Heap, K.In base → base.Ns mainGlobals mg → (∀ p ∈ cs, LamX.TabB base mg p.1 p.2) → FnG T P w K mg base k fa fd [x] 1 true g
theorem walk_ofG {l : PySem.W.OpenLaw} {n k : Nat} {q : Program} {loose : List Str} {XP : (Str → Option Value) → Heap → Prop} {YP : World → Heap → Prop} {d : DefRec} {x : Str}
    (hn : l.most = some n) (hn2 : n ≤ sizeLine) (hdf : d.params.defaults = []) (hr : Room k callerA) (hcg : callerA.guards = some [])
    (F : ∀ (w : World) (mg : Str → Option Value) (fa : Addr) (h : Heap), YP w h → h.Ns mainGlobals mg → mg d.name = some (.ref fa) → ∃ K : PySem.W.Frag, K.In h ∧ LawG l.prog w K k n x mg fa h) :
    PySem.W.WalkO q loose XP YP l.row.toRowW d [] (fun f vs => PySem.call f vs) := by
  refine Att.attach_callB hn hdf fun w s₀ s₁ mg mb fa o pm cd doc a vs ns G Y ho hd hcd hmg ha hints hlen hbits hg => ?_
  obtain ⟨K, KX, ⟨fd, cs, T, g, hT, nT, C, hTT, hb, hval, hF⟩⟩ := F w mg fa _ Y G.T.g hmg
  have hns := G.T.g
  have rv := vals_ints hints
  have lenV := hints.length
  have hl : ns.length ≤ sizeLine := Nat.le_trans hlen hn2
  have isT : ∀ b : Addr, b ∈ cs.map (·.2) → s₁.heap.get? b = some { cls := .none, data := .fields #[] } ∧ K.lookup b = none := fun b hb => by
    obtain ⟨p, hp, e⟩ := List.mem_map.mp hb
    rw [← e]
    exact ⟨hT p hp, nT p hp⟩
  have aT : a ∉ cs.map (·.2) := fun z => by
    have q := (isT a z).1
    rw [ha] at q
    have z' : Data.seq vs.toArray _ = Data.fields #[] := congrArg Obj.data (Option.some.inj q)
    cases z'
  have memT : ∀ p ∈ cs, p.2 ∈ cs.map (·.2) := fun p hp => List.mem_map.mpr ⟨p, hp, rfl⟩
  have neT : ∀ p ∈ cs, p.2 ≠ a := fun p hp z => aT (by rw [← z]; exact memT p hp)
  have hH : ∀ b ∈ cs.map (·.2), headH K a { cls := .type "list", data := .seq vs.toArray } ns (cs.map (·.2)) b = some (.tbl #[]) := fun b hb => headH_tab hb fun z => aT (by rw [← z]; exact hb)
  generalize eH : headH K a { cls := .type "list", data := .seq vs.toArray } ns (cs.map (·.2)) = H at hH
  have what : ∀ {b : Addr} {u : HO}, H b = some u → (b = a ∧ K.lookup a = none ∧ u = .frz { cls := .type "list", data := .seq vs.toArray } (.lst (ns.map V.int))) ∨ (b ≠ a ∧ b ∈ cs.map (·.2) ∧ u = .tbl #[]) := fun e => headH_some (by rw [eH]; exact e)
  have hok : HOk l.prog w H s₁.heap := fun b u e => by
    rcases what e with ⟨rfl, _, rfl⟩ | ⟨_, h2, rfl⟩
    · exact ⟨ha, by rw [List.length_map]; exact hl, vs, _, rv, ha⟩
    · exact (isT b h2).1
  have hFr : FrL K H a (ns.map V.int) := by
    cases e : K.lookup a with
    | none => exact .inl ⟨{ cls := .type "list", data := .seq vs.toArray }, by rw [← eH]; unfold headH; rw [if_pos rfl, e]⟩
    | some ob =>
      have e2 := KX a ob e
      rw [ha] at e2
      cases e2
      exact .inr ⟨_, vs.toArray, _, e, rfl, rfl, rfl, by rw [List.size_toArray, lenV]; exact hl, by simpa using rv⟩
  -- objects of another kind are the base's
  have free : ∀ {b : Addr} {ob : Obj}, s₁.heap.get? b = some ob → (∀ vs n, ob.data ≠ .seq vs n) → ob.data ≠ .fields #[] → H b = none := fun {b ob} e h1 h2 => by
    cases z : H b with
    | none => rfl
    | some u =>
      rcases what z with ⟨rfl, _, _⟩ | ⟨_, h3, _⟩
      · rw [ha] at e; cases e; exact (h1 _ _ rfl).elim
      · rw [(isT b h3).1] at e; cases e; exact (h2 rfl).elim
  have freeD : ∀ {b : Addr} {ob : Obj} {es : Array DictEntry} {ep : Nat}, s₁.heap.get? b = some ob → ob.data = .dict es ep → H b = none := fun {b ob es ep} e d => free e (fun _ _ z => by rw [d] at z; cases z) fun z => by rw [d] at z; cases z
  have nsK : ∀ {b : Addr} {m : Str → Option Value}, s₁.heap.Ns b m → (hidT s₁.heap H).Ns b m := fun {b m} ⟨ob, es, ep, e, d, r⟩ => ⟨ob, es, ep, hidT_get e (freeD e d), d, r⟩
  have hKb : K.In (hidT s₁.heap H) := fun b ob e => hidT_get (KX b ob e) (by
    cases z : H b with
    | none => rfl
    | some u =>
      rcases what z with ⟨rfl, h2, _⟩ | ⟨_, h3, _⟩
      · rw [h2] at e; cases e
      · rw [(isT b h3).2] at e; cases e)
  have hM : L2.Mod K mg (hidT s₁.heap H) := ⟨hKb, nsK hns, ⟨mb, nsK G.T.b, G.T.builtins⟩, let ⟨mc, h1, h2⟩ := G.T.nolimit; ⟨mc, nsK h1, h2⟩⟩
  have TB : ∀ p ∈ cs, LamX.TabB (hidT s₁.heap H) mg p.1 p.2 := fun p hp => by
    have hTp := hT p hp
    obtain ⟨oc, us, file, tf, flags, tg, inF, text, tt, e1, r1, r2, r3, r4, r5, r6, r7, r8, hne⟩ := C p hp
    obtain ⟨bm, ob, b1, b2, b3, b4, b5, b6⟩ := G.T.bmain
    have nP : bm ≠ p.2 := fun z => by rw [z, hTp] at b3; cases b3; cases b6
    have nM : mainGlobals ≠ p.2 := fun z => by
      obtain ⟨om, es, ep, e, hdm, _⟩ := hns
      rw [z, hTp] at e; cases e; cases hdm
    have nG : bm ≠ mainGlobals := fun z => by
      obtain ⟨om, es, ep, e, hdm, _⟩ := hns
      rw [z, e] at b3; cases b3; rw [hdm] at b6; cases b6
    refine ⟨⟨oc, us, file, tf, flags, tg, inF, text, tt, hidT_get e1 (free e1 (fun _ _ z => ?_) fun z => ?_), r1, r2, r3, r4, r5, r6, r7, r8, hne⟩, ⟨bm, ob, b1, b2, nG, nP, hidT_get b3 (free b3 (fun _ _ z => ?_) fun z => ?_), b4, b5, b6⟩, nM⟩
    · rw [r2] at z; cases z
    · rw [r2] at z; cases z; simp at r3
    · rw [b6] at z; cases z
    · rw [b6] at z; cases z
  have e0 : Env0 l.prog w K mg (hidT s₁.heap H) callerA [] s₁ H := ⟨rfl, hM, fun _ _ e => of_hidT e, Nat.le_of_eq (hidT_size _ _), trivial, fun b hb => absurd (show b ∈ ([] : List Addr) from hb) (by simp), hok, .of_eq hg⟩
  have tabs : LamX.Tabs T H := fun p hp => LamX.TabS.nil (hH _ (hTT p hp))
  obtain ⟨dl, hv⟩ := hval ns hlen hbits
  have sp : spF T K mg 1 g [.ref a] H (fun v _ => v = .bl true) (fun _ _ _ => False) := by
    refine ⟨rfl, [.frl (intsOf ns)], [], ⟨.ref a, [], [], [], rfl, rfl, (fun _ z => by cases z), ⟨a, ns.map V.int, rfl, hFr, rfl, ints_reps ns⟩, rfl, rfl⟩, tabs, ?_⟩
    rw [hv]
    exact fun v G H' F' r _ _ _ => r.1
  refine codeAny_mono ((hF _ hKb (nsK hns) TB).run callerA [] s₁ H ⟨[.ref a], []⟩ [.ref a] [.ref a] _ _ hr (fun _ => hcg) e0 (hb s₁ (.ref a)) (.cons rfl .nil) sp) fun r s' h => ?_
  cases r with
  | error e =>
    obtain ⟨_, _, _, _, _, _, _, _, _, _, _, _, _, _, z⟩ := (show L2.CX l.prog w [] H s₁ (fun _ _ _ => False) e s' from h)
  | ok fl =>
    cases fl with
    | next => exact False.elim h
    | brk => exact False.elim h
    | cont => exact False.elim h
    | ret u =>
      obtain ⟨v, H', os, bare, un, hok', r', rfl⟩ := h
      obtain rfl : u = Value.bool true := r'
      have grown : ∀ b ∈ cs.map (·.2), ∃ more : Array Value, s'.heap.get? b = some { cls := .none, data := .fields more } := fun b hb => by
        obtain ⟨more, z⟩ := un.tbls b #[] (hH b hb)
        exact ⟨_, hok' b _ z⟩
      have key : ∀ b ob, b ∉ cs.map (·.2) → s₁.heap.get? b = some ob → s'.heap.get? b = some ob := fun b ob nb e => by
        cases z : H b with
        | none => exact un.keep b ob e z (fun y => absurd (show b ∈ ([] : List Addr) from y) (by simp)) (by simp)
        | some u =>
          rcases what z with ⟨rfl, _, rfl⟩ | ⟨_, h3, _⟩
          · have z2 := un.frzs b _ _ z
            obtain ⟨e2, _⟩ := hok' b _ z2
            rw [ha] at e; cases e
            exact e2
          · exact absurd h3 nb
      refine ⟨rfl, ⟨fun b ob e => ?_, fun b ob e => ?_⟩, os, bare⟩
      · by_cases hb : b ∈ cs.map (·.2)
        · obtain ⟨p, hp, ep⟩ := List.mem_map.mp hb
          obtain ⟨more, hm⟩ := grown b hb
          rw [(isT b hb).1] at e
          cases e
          rw [← ep] at hm ⊢
          exact .inr (.inl ⟨((C p hp).tab (hT p hp)).isCodeTable, rfl, #[], more, rfl, by rw [Array.empty_append]; exact hm⟩)
        · exact .inl (key b ob hb e)
      · by_cases hb : b ∈ cs.map (·.2)
        · obtain ⟨more, hm⟩ := grown b hb
          exact ⟨_, hm⟩
        · exact ⟨ob, key b ob hb e⟩
/-! ### the head's words -/
theorem fn_of {K : PySem.W.Frag} {x qual : Str} {st : Stmt} {p : He.Defn} {fd : FuncData} (F : FunD K x qual (defArgs st) (defBody st) (defScope st) [] [] (He.fAd K p) fd) : Fn K x qual st (He.fAd K p) fd (.ref (He.codeOf K p)) := by
  obtain ⟨oc, od, dV, kV, doc, pm, an, cdv, ct, osl, e, lk, hcd, hD, hK⟩ := F.ex
  obtain ⟨c, rfl⟩ := He.codeIn_ref hcd
  have hc : He.codeOf K p = c := He.codeOf_eq lk (by rw [e])
  rw [hc]
  rcases hD with ⟨_, rfl⟩ | ⟨z, _⟩
  · exact ⟨⟨oc, od, kV, doc, pm, an, ct, osl, e, lk, hcd⟩, F.kp⟩
  · exact absurd rfl z
theorem Fn.binds {K : PySem.W.Frag} {x qual : Str} {st : Stmt} {f : Addr} {fd : FuncData} {cdv : Value} {ps : List Str} (F : Fn K x qual st f fd cdv)
    (h : ∀ (kV doc pm : Value) (an : Option Addr) (cdv ct : Value) (us : List Value), us.length = ps.length → bindArgs (PySem.W.fnOf x qual (defArgs st) (defBody st) (defScope st) .none kV doc pm an cdv ct) ⟨us, []⟩ = pure (ps.zip us)) : Binds K fd ps [] := by
  obtain ⟨oc, od, kV, doc, pm, an, ct, osl, rfl, lk, hcd⟩ := F.ex
  exact .all fun us hl => h kV doc pm an cdv ct us hl
theorem Fn.bindsTo {K : PySem.W.Frag} {x qual : Str} {st : Stmt} {f : Addr} {fd : FuncData} {cdv : Value} {ps ks : List Str} {pm' : List Nat} (F : Fn K x qual st f fd cdv)
    (h : ∀ (kV doc pm : Value) (an : Option Addr) (cdv ct : Value) (ws : List Value), ws.length = ks.length → bindArgs (PySem.W.fnOf x qual (defArgs st) (defBody st) (defScope st) .none kV doc pm an cdv ct) ⟨[], ks.zip ws⟩ = pure (ps.zip (permL pm' ws))) : ∀ (s : Shared) (ws : List Value), ws.length = ks.length → BindsTo s fd ⟨[], ks.zip ws⟩ (ps.zip (permL pm' ws)) := by
  obtain ⟨oc, od, kV, doc, pm, an, ct, osl, rfl, lk, hcd⟩ := F.ex
  exact fun s ws hl => .of_eq (h kV doc pm an cdv ct ws hl)
end TQ
set_option maxHeartbeats 4000000
namespace TQ
open PySem PySem.Spec PyProof.Rows L2
section
variable {T : List (Addr × Str)} {X : Cx} {W : WX} {H H1 H' : Hp} {P P1 P' : Addr → Prop} {σ : Sg} {kp js : List Nat} {K : PySem.W.Frag}
/-! ### == of texts, of data -/
def rEqA (K : PySem.W.Frag) : R2 := fun x y H Q => rEq x y H Q ∨ rEqD K x y H Q
def rNeA (K : PySem.W.Frag) : R2 := fun x y H Q => rNe x y H Q ∨ rNeD K x y H Q
theorem op_eqA (hu : X.A.units + 64 < cLine) : OpR X (compareOp .Eq) (rEqA X.K) := OpR.or op_eq (op_eqD hu)
theorem op_neA (hu : X.A.units + 64 < cLine) : OpR X (compareOp .NotEq) (rNeA X.K) := OpR.or op_ne (op_neD hu)
def fEqA : List D → Option D := fun l => match l with
  | [.str a, .str b] => some (.bl (decide (a = b)))
  | l => fEq l
def fNeA : List D → Option D := fun l => match l with
  | [.str a, .str b] => some (.bl (!decide (a = b)))
  | l => fNe l
theorem dec_vstr {a b : Str} : decide (V.str a = V.str b) = decide (a = b) := by
  by_cases h : a = b
  · rw [decide_eq_true h, h]; simp
  · rw [decide_eq_false h, decide_eq_false]; intro z; cases z; exact h rfl
theorem rn_eqA : RN K (r2L (rEqA K)) fEqA := fun H vs ds d' Q vw h q => by
  unfold fEqA at h
  split at h
  · rename_i a b
    obtain ⟨x, y, F, G, rfl, ⟨rfl, _⟩, ⟨rfl, _⟩⟩ := Vw.two vw
    cases h
    exact ⟨_, _, rfl, .inl ⟨rfl, q _ [] H ⟨by rw [dec_vstr], rfl⟩ Fresh.refl⟩⟩
  · obtain ⟨x, y, e, z⟩ := rn_eq H vs ds d' Q vw h q
    exact ⟨x, y, e, .inr z⟩
theorem rn_neA : RN K (r2L (rNeA K)) fNeA := fun H vs ds d' Q vw h q => by
  unfold fNeA at h
  split at h
  · rename_i a b
    obtain ⟨x, y, F, G, rfl, ⟨rfl, _⟩, ⟨rfl, _⟩⟩ := Vw.two vw
    cases h
    exact ⟨_, _, rfl, .inl ⟨rfl, q _ [] H ⟨by rw [dec_vstr], rfl⟩ Fresh.refl⟩⟩
  · obtain ⟨x, y, e, z⟩ := rn_ne H vs ds d' Q vw h q
    exact ⟨x, y, e, .inr z⟩
/-! ### what is never reached -/
def sStuck : Sm := fun _ => .stuck
theorem ss_stuck {st : Stmt} : SS T X W kp st sStuck := ⟨⟨fun _ _ _ _ _ _ ⟨_, _, _, p⟩ => p.elim⟩⟩
def mStuck : M Opd := fun _ => .stuck
theorem so_stuck {e : Expr} : SO T X W e mStuck := ⟨⟨fun _ _ _ _ _ _ ⟨_, _, _, p⟩ => p.elim⟩⟩
/-! ### a def's context -/
theorem Room.u80 {k : Nat} {A : Around} (r : Room k A) : A.units + 80 < cLine := by have := r.un; omega
theorem Room.u64 {k : Nat} {A : Around} (r : Room k A) : A.units + 64 < cLine := by have := r.un; omega
theorem takesC {P : Program} {w : World} {mg : Str → Option Value} {base : Heap} {N : List Str} {qual : Str} {scope : Scope} {f : Addr} {cd : Value} {A : Around} {outer : List Env} {s : Shared} {H : Hp} {E : XK} : Takes (cxOf (L2.CX P w) P w K mg base N qual scope f cd A outer s H E) (fun cls d _ H => E cls d H) := takes_of rfl rfl rfl rfl
theorem FnG.cal {P : Program} {w : World} {mg : Str → Option Value} {base : Heap} {k : Nat} {x : Str} {f : Addr} {fd : FuncData} {ps : List Str} {np : Nat} {gd : Bool} {g : FM} (F : FnG T P w K mg base k f fd ps np gd g) (hm : mg x = some (.ref f)) (hk : PySem.W.keepIn K (.ref f) = true) (hb : Binds K fd ps []) : Cal T P w K mg base k x np gd g := ⟨f, fd, ps, F, hm, hk, hb⟩
theorem FnG.calK {P : Program} {w : World} {mg : Str → Option Value} {base : Heap} {k : Nat} {x : Str} {f : Addr} {fd : FuncData} {ps ks : List Str} {pm : List Nat} {np : Nat} {gd : Bool} {g : FM} (F : FnG T P w K mg base k f fd ps np gd g) (hm : mg x = some (.ref f)) (hk : PySem.W.keepIn K (.ref f) = true) (hb : ∀ (s : Shared) (ws : List Value), ws.length = ks.length → BindsTo s fd ⟨[], ks.zip ws⟩ (ps.zip (permL pm ws))) : CalK T P w K mg base k x np gd ks pm g := ⟨f, fd, ps, F, hm, hk, hb⟩
/-! ### the head's words -/
/-- the tables of the makers are unlike -/
def tabU (tf : List He.Defn) (K : PySem.W.Frag) : Bool := decide ((tf.map fun p => (He.cT K p).2).Nodup)
/-- what a law's walk leans on -/
structure Hd (fa : List He.Fa) (fn : List He.DefD) (tf : List He.Defn) (w : World) (K : PySem.W.Frag) (h : Heap) (mg : Str → Option Value) : Prop where
  kin : K.In h
  ns : h.Ns mainGlobals mg
  says : He.SaysX fa fn [] tf (tabU tf) w h K
section
variable {fa : List He.Fa} {fn : List He.DefD} {tf : List He.Defn} {w : World} {h : Heap} {mg : Str → Option Value}
theorem Hd.glo (c : Hd fa fn tf w K h mg) (i : Nat) {x : Str} (e : fa[i]? = some (.glo x) := by rfl) : mg x = some (.ref (He.ga K x)) := He.glo_ok c.kin c.ns (c.says.t.d.fact i e)
theorem Hd.free (c : Hd fa fn tf w K h mg) (i : Nat) {x : Str} (e : fa[i]? = some (.free x) := by rfl) : mg x = none := He.free_ok c.kin c.ns (c.says.t.d.fact i e)
theorem Hd.int (c : Hd fa fn tf w K h mg) (i : Nat) {x : Str} {n : Int} (e : fa[i]? = some (.int x n) := by rfl) : ∃ t, mg x = some (.int n t) := He.int_ok c.kin c.ns (c.says.t.d.fact i e)
theorem Hd.def_ (c : Hd fa fn tf w K h mg) (i : Nat) {x : Str} {st : Stmt} (e : fn[i]? = some ⟨(x, none), x, x, defArgs st, defBody st, defScope st, [], []⟩ := by rfl) : ∃ fd, Fn K x x st (He.ga K x) fd (.ref (He.codeOf K (x, none))) := by
  obtain ⟨fd, F⟩ := c.says.t.d.def_ i e
  exact ⟨fd, fn_of F⟩
end
/-- an int of the top -/
theorem so_gint {i : Int} {x : Str} {pos : Pos} (hg : Gl X x) (hm : ∃ t, X.mg x = some (.int i t)) (hd : (x == ("__debug__" : Str)) = false := by decide) : SO T X W (.Name x pos) (mC (.int i)) := by
  obtain ⟨t, e⟩ := hm
  exact so_glob (v := .int i) hg e ⟨t, rfl⟩ (fun _ => ⟨rfl, rfl⟩) hd
end
end TQ
set_option maxHeartbeats 4000000
namespace TQ
open PySem PySem.Spec PyProof.Rows L2
section
variable {T : List (Addr × Str)} {X : Cx} {W : WX} {H H1 H' : Hp} {P P1 P' : Addr → Prop} {σ : Sg} {kp js : List Nat} {K : PySem.W.Frag}
/-! ### words for a text's derivation -/
theorem so_append (j : Nat) {x : Str} {p apos cpos : Pos} {e : Expr} {m : M Opd} (ha : SO T X W e m) (hN : X.N[j]? = some x := by rfl) (hv : Vis X.env.scope x := by first | exact Or.inl rfl | exact Or.inr (Or.inl rfl) | exact Or.inr (Or.inr rfl)) (hd : (x == ("__debug__" : Str)) = false := by decide)
    (hcd : (x == ("__classdict__" : Str)) = false := by decide) (hbase : attributeBase (.Name x p) "append" X.env (eval (.Name x p) X.env) = eval (.Name x p) X.env := by rfl) (hst : starEach [e] X.env = (false, eval e X.env) :: starEach [] X.env := by rfl) (hpl : (backTo cpos (starEach [] X.env)).any (·.1) = false := by rfl)
    (hfew : ((backTo cpos (starEach [e] X.env)).all (fun x => !x.1) && (backToKw cpos (keywordEach [] X.env)).all (fun x => x.1.isSome) && decide ([e].length + ([] : List Keyword).length + (if ([] : List Keyword).isEmpty then 0 else 1) < 30)) = true := by rfl) (hline : (apos.endLine == cpos.line) = true := by rfl) :
    SO T X W (.Call (.Attribute (.Name x p) "append" apos) [e] [] cpos) (mMeth j (m1 m) fAppend) :=
  so_meth j PySem.F.slot_list_append PySem.F.type_list_append mt_append ok_append (sa_cons ha sa_nil hst) hN hv hd hcd hbase hst hpl fun ho ha => pe_bm PySem.F.plainAttrs_list PySem.F.slot_list_append PySem.F.type_list_append mt_append ho ha hbase hfew hline hst hpl
theorem so_extend (j : Nat) {x : Str} {p apos cpos : Pos} {e : Expr} {m : M Opd} (ha : SO T X W e m) (hN : X.N[j]? = some x := by rfl) (hv : Vis X.env.scope x := by first | exact Or.inl rfl | exact Or.inr (Or.inl rfl) | exact Or.inr (Or.inr rfl)) (hd : (x == ("__debug__" : Str)) = false := by decide)
    (hcd : (x == ("__classdict__" : Str)) = false := by decide) (hbase : attributeBase (.Name x p) "extend" X.env (eval (.Name x p) X.env) = eval (.Name x p) X.env := by rfl) (hst : starEach [e] X.env = (false, eval e X.env) :: starEach [] X.env := by rfl) (hpl : (backTo cpos (starEach [] X.env)).any (·.1) = false := by rfl)
    (hfew : ((backTo cpos (starEach [e] X.env)).all (fun x => !x.1) && (backToKw cpos (keywordEach [] X.env)).all (fun x => x.1.isSome) && decide ([e].length + ([] : List Keyword).length + (if ([] : List Keyword).isEmpty then 0 else 1) < 30)) = true := by rfl) (hline : (apos.endLine == cpos.line) = true := by rfl) :
    SO T X W (.Call (.Attribute (.Name x p) "extend" apos) [e] [] cpos) (mMeth j (m1 m) fExtend) :=
  so_meth j PySem.F.slot_list_extend PySem.F.type_list_extend mt_extend ok_extend (sa_cons ha sa_nil hst) hN hv hd hcd hbase hst hpl fun ho ha => pe_bm PySem.F.plainAttrs_list PySem.F.slot_list_extend PySem.F.type_list_extend mt_extend ho ha hbase hfew hline hst hpl
/-! what is walked: own values -/
def Owns (m : M Opd) : Prop := ∀ s o s', m s = .ok o s' → ∃ d, o = .own d
theorem Owns.slot {m : M Opd} (h : Owns m) : slotOf m [] := fun s i s' e => by
  obtain ⟨d, z⟩ := h s _ s' e
  cases z
theorem owns_bind {α : Type} {m : M α} {k : α → M Opd} (h : ∀ a, Owns (k a)) : Owns (mBind m k) := fun s o s' e => by
  unfold mBind at e
  cases q : m s with
  | ok a s1 => rw [q] at e; exact h a _ _ _ e
  | exc c w s1 => rw [q] at e; cases e
  | stuck => rw [q] at e; cases e
theorem owns_ret {d : D} : Owns (mRet (.own d)) := fun s o s' h => by cases h; exact ⟨_, rfl⟩
theorem owns_app {ms : M (List Opd)} {f : List D → Option D} : Owns (mApp ms f) := owns_bind fun os s o s' h => by
  cases e1 : getAll s os with
  | none => simp only [e1] at h; cases h
  | some ds =>
    simp only [e1] at h
    cases e2 : f ds with
    | none => simp only [e2] at h; cases h
    | some d => simp only [e2] at h; cases h; exact ⟨_, rfl⟩
theorem owns_call {g : FM} {ms : M (List Opd)} : Owns (mCall g ms) := owns_bind fun os => owns_bind fun dl s o s' h => by
  cases e1 : g dl with
  | ok d dl' => simp only [e1] at h; cases h; exact ⟨_, rfl⟩
  | exc c w dl' => simp only [e1] at h; cases h
  | stuck => simp only [e1] at h; cases h
theorem owns_slice {ma : M Opd} {ml mu : M (Option Int)} {f : Option Int → Option Int → List D → Option D} : Owns (mSlice ma ml mu f) := owns_bind fun x => owns_bind fun lo => owns_bind fun hi s o s' h => by
  cases e1 : x.get s with
  | none => simp only [e1] at h; cases h
  | some d =>
    simp only [e1] at h
    cases e2 : f lo hi [d] with
    | none => simp only [e2] at h; cases h
    | some d => simp only [e2] at h; cases h; exact ⟨_, rfl⟩
theorem owns_lst {ms : M (List Opd)} : Owns (mLst ms) := owns_bind fun os => owns_bind fun l => owns_ret
theorem owns_tup {ms : M (List Opd)} : Owns (mTup ms) := owns_bind fun os => owns_bind fun l => owns_ret
theorem owns_lc {mi : M ItS} {g : Tg} {tt : M Bool} {te : M Opd} {vs : List Nat} : Owns (mLc mi g tt te vs) := owns_bind fun it s o s' h => by
  cases e1 : it (wipeS s vs) with
  | none => simp only [e1] at h; cases h
  | some l => simp only [e1] at h; exact owns_bind (fun acc => owns_ret) _ _ _ h
/-! a lambda handed to the def that hears it -/
theorem so_heardF {x a : Str} {st : Stmt} {g c Pt : Addr} {fd : FuncData} {cdv : Value} {k j : Nat} {Ng : List Str} {params : Arguments} {body : Expr} {scope : Scope} {m : M Opd} {p lpos pos : Pos} (hg : Gl X x) (hm : X.mg x = some (.ref g)) (F : Fn X.K x x st g fd cdv)
    (hb : L2.Binds X.K fd [a] []) (Sg : FnScope Ng [a] (defScope st)) (hNg : Ng[0]? = some a) (hva : Vis (defScope st) a)
    (hG : LamX.GivesTo X Ng x (defScope st) g cdv (defBody st) a (X.env.qual ++ "<lambda>") TThru)
    (TB : LamX.TabB X.base X.mg c Pt) (hcode : X.env.code = .ref c) (hmT : (Pt, X.env.qual ++ "<lambda>") ∈ T) (hu : ∀ p ∈ T, p.1 = Pt → p.2 = X.env.qual ++ "<lambda>") (hr : Room j X.A) (hj : k + 2 ≤ j) (L : LamX.LamS X.env.scope scope) (hdef : defaultsOf params X.env = ([], []))
    (hbind : ∀ (q : Str) (cl : List (Str × Addr)) (pm cv ctv : Value), bindArgs (PySem.W.kla_fn "<lambda>" q params body scope cl pm cv ctv) ⟨[], []⟩ = pure [])
    (hbody : ∀ (A : Around) (outer : List Env) (s : Shared) (H : Hp) (E : XK) (f c' : Addr), Room k (A.deeper (LamX.lamEnv X scope s.heap.objs.size f c')) → SO T (LamX.lamCx X A outer s H E scope f c') W0 body m)
    (hdb : (x == ("__debug__" : Str)) = false := by decide) (hd : (a == ("__debug__" : Str)) = false := by decide) (hcd : (a == ("__classdict__" : Str)) = false := by decide) :
    SO T X W (.Call (.Name x p) [.Lambda params body scope lpos] [] pos) (mHeard m) := by
  obtain ⟨oc, od, kV, doc, pm, an, ct, osl, rfl, lk, hcd'⟩ := F.ex
  exact so_heard hg hm F.kp lk hcd' hb Sg hNg hva hG TB hcode hmT hu hr hj L hdef hbind hbody hdb hd hcd
def TTab (tf : List He.Defn) (K : PySem.W.Frag) : List (Addr × Str) := tf.map fun p => ((He.cT K p).2, p.1 ++ ".<locals>." ++ "<lambda>")
theorem ttab_mem {tf : List He.Defn} {p : He.Defn} (h : p ∈ tf) : ((He.cT K p).2, p.1 ++ ".<locals>." ++ "<lambda>") ∈ TTab tf K := List.mem_map.mpr ⟨p, h, rfl⟩
theorem nodup_inj {α β : Type} {f : α → β} : ∀ {l : List α}, (l.map f).Nodup → ∀ {p q : α}, p ∈ l → q ∈ l → f p = f q → p = q
  | [], _, p, _, hp, _, _ => by cases hp
  | a :: l, h, p, q, hp, hq, e => by
    rw [List.map_cons, List.nodup_cons] at h
    rcases List.mem_cons.mp hp with e1 | hp1
    · rcases List.mem_cons.mp hq with e2 | hq1
      · rw [e1, e2]
      · exact absurd (show f a ∈ l.map f from List.mem_map.mpr ⟨q, hq1, by rw [← e, e1]⟩) h.1
    · rcases List.mem_cons.mp hq with e2 | hq1
      · exact absurd (show f a ∈ l.map f from List.mem_map.mpr ⟨p, hp1, by rw [e, e2]⟩) h.1
      · exact nodup_inj h.2 hp1 hq1 e
theorem ttab_u {tf : List He.Defn} (hu : tabU tf K = true) {p : He.Defn} (h : p ∈ tf) : ∀ q ∈ TTab tf K, q.1 = (He.cT K p).2 → q.2 = p.1 ++ ".<locals>." ++ "<lambda>" := fun q hq e => by
  obtain ⟨r, hr, rfl⟩ := List.mem_map.mp hq
  have := nodup_inj (of_decide_eq_true hu) hr h e
  rw [this]
end
end TQ
set_option maxHeartbeats 4000000
namespace TQ
open PySem PySem.Spec PyProof.Rows L2
section
variable {T : List (Addr × Str)} {X : Cx} {W : WX} {H H1 H' : Hp} {P P1 P' : Addr → Prop} {σ : Sg} {kp js : List Nat} {K : PySem.W.Frag}
theorem st_cmp {op : CmpOp} {a b : Expr} {pos : Pos} {ma mb : M Opd} {r : R2} {f : List D → Option D} (ho : OpR X (compareOp op) r) (hf : RN X.K (r2L r) f) (ha : SO T X W a ma) (hb : SO T X W b mb) (hm : behindInMarks op b = false) : ST T X W (.Compare a [op] [b] pos) (mTest (mApp (m2 ma mb) f)) :=
  ⟨PT.imp (pt_cmpR ho ha.run hb.run hm) fun σ H Q h => tM_imp (tA_two (tA_app hf (tO_of_test h))) fun x H1 q => tM_imp q fun y H2 ⟨x', y', e, q⟩ => by cases e; exact q⟩
theorem tChain_of {f g : Int → Int → Bool} {ma mb mc : M Opd} {Q : VK} (q : tO T X W (mChain f g ma mb mc) σ H Q) : tChain (rI0c f) (rI0c g) (tO T X W ma) (tO T X W mb) (tO T X W mc) σ H Q := by
  unfold tChain
  refine tM_imp (tO_of_int (R := fun i H1 => tM T X W rZ (mInt mb) σ H1 fun j H2 => if f i j = true then tM T X W rZ (mInt mc) σ H2 fun k H3 => Q (.bl (g j k)) H3 else Q (.bl false) H2) ?_) fun x H1 ⟨i, ex, q1⟩ => tM_imp (tO_of_int q1) fun y H2 ⟨j, ey, q2⟩ => ⟨i, j, ex, ey, f i j, rfl, ?_⟩
  · refine tM_bind q fun i ds1 i' F H1 Fs1 r R1 dj p => ?_
    have mu := rZ_mu r
    obtain ⟨rfl, _⟩ := r
    refine tM_bind (tM_go (k := mBind (mInt mb) fun j => if f i j then mBind (mInt mc) fun k => mC (.bl (g j k)) else mC (.bl false)) R1 mu p) fun j ds2 j' F2 H2 Fs2 r2 R2 dj2 p2 => ?_
    have mu2 := rZ_mu r2
    obtain ⟨rfl, _⟩ := r2
    by_cases hf : f i j = true
    · rw [if_pos hf]
      rw [if_pos hf] at p2
      refine tM_bind (tM_go (k := mBind (mInt mc) fun k => mC (.bl (g j k))) R2 mu2 p2) fun k ds3 k' F3 H3 Fs3 r3 R3 dj3 p3 => ?_
      have mu3 := rZ_mu r3
      obtain ⟨rfl, _⟩ := r3
      exact tO_ret R3 mu3 p3 ⟨rfl, rfl⟩
    · rw [if_neg hf]
      rw [if_neg hf] at p2
      exact tO_ret R2 mu2 p2 ⟨rfl, rfl⟩
  · by_cases hf : f i j = true
    · rw [if_pos hf] at q2
      rw [if_pos hf]
      exact tM_imp (tO_of_int q2) fun z H3 ⟨k, ez, q3⟩ => ⟨j, k, ey, ez, q3⟩
    · rw [if_neg hf] at q2
      rw [if_neg hf]
      exact q2
theorem st_chain {op op' : CmpOp} {f g : Int → Int → Bool} {a b c : Expr} {pos : Pos} {ma mb mc : M Opd} (ho : OpR X (compareOp op) (rI0c f)) (ho' : OpR X (compareOp op') (rI0c g)) (ha : SO T X W a ma) (hb : SO T X W b mb) (hc : SO T X W c mc)
    (hm : lastMarks [op, op'] [b, c] = false) : ST T X W (.Compare a [op, op'] [b, c] pos) (mTest (mChain f g ma mb mc)) :=
  ⟨PT.imp (pt_chain ho ho' ha.run hb.run hc.run hm) fun σ H Q h => tChain_of (tO_of_test h)⟩
end
end TQ
set_option maxHeartbeats 4000000
namespace TQ
open PySem PySem.Spec PyProof.Rows L2
theorem Fn.uniq {K : PySem.W.Frag} {x qual : Str} {st : Stmt} {f : Addr} {fd fd' : FuncData} {cdv cdv' : Value} (F : Fn K x qual st f fd cdv) (F' : Fn K x qual st f fd' cdv') : fd' = fd := by
  obtain ⟨_, _, _, _, _, _, _, _, _, lk, _⟩ := F.ex
  obtain ⟨_, _, _, _, _, _, _, _, _, lk', _⟩ := F'.ex
  rw [lk] at lk'
  cases lk'
  rfl
theorem FnG.gdt {T : List (Addr × Str)} {P : Program} {w : World} {K : PySem.W.Frag} {mg : Str → Option Value} {base : Heap} {k : Nat} {f : Addr} {fd : FuncData} {ps : List Str} {np : Nat} {gd : Bool} {g : FM} (F : FnG T P w K mg base k f fd ps np gd g) : FnG T P w K mg base k f fd ps np true g :=
  ⟨F.pl, fun A outer s H args us vs Q E hr hg => F.run A outer s H args us vs Q E hr fun _ => hg rfl⟩
theorem lawG_of {fa : List He.Fa} {fn : List He.DefD} {tf : List He.Defn} {w : World} {K : PySem.W.Frag} {h : Heap} {mg : Str → Option Value} {P : Program} {k n : Nat} {x : Str} {f : Addr} {st : Stmt} {g : FM} {gd : Bool} (c : Hd fa fn tf w K h mg)
    (hf : mg "law" = some (.ref f)) (hg : mg "law" = some (.ref (He.ga K "law"))) (F0 : ∃ fd, Fn K "law" "law" st (He.ga K "law") fd (.ref (He.codeOf K ("law", none))))
    (hb : ∀ fd, Fn K "law" "law" st (He.ga K "law") fd (.ref (He.codeOf K ("law", none))) → ∀ (s : Shared) (u : Value), BindsTo s fd ⟨[u], []⟩ [(x, u)])
    (ok : ∀ base : Heap, (∀ p ∈ tf, LamX.TabB base mg (He.cT K p).1 (He.cT K p).2) → ∃ fd, Fn K "law" "law" st (He.ga K "law") fd (.ref (He.codeOf K ("law", none))) ∧ FnG (TTab tf K) P w K mg base k (He.ga K "law") fd [x] 1 gd g)
    (hval : ∀ ns : List Int, ns.length ≤ n → (∀ z ∈ ns, Builtin.Int.intBits z ≤ 1048576) → ∃ dl, g [.frl (intsOf ns)] = .ok (.bl true) dl) : LawG P w K k n x mg f h := by
  have e := hf.symm.trans hg
  cases e
  obtain ⟨fd, F⟩ := F0
  refine ⟨⟨fd, tf.map (He.cT K), TTab tf K, g, fun p hp => ?_, fun p hp => ?_, fun p hp => ?_, fun p hp => ?_, hb fd F, hval, fun base _ _ tb => ?_⟩⟩
  · obtain ⟨q, hq, rfl⟩ := List.mem_map.mp hp
    exact c.says.empty q hq
  · obtain ⟨q, hq, rfl⟩ := List.mem_map.mp hp
    exact c.says.out q hq
  · obtain ⟨q, hq, rfl⟩ := List.mem_map.mp hp
    exact PySem.W.codeHd_of_K c.kin (c.says.hd q hq)
  · obtain ⟨q, hq, rfl⟩ := List.mem_map.mp hp
    exact List.mem_map.mpr ⟨He.cT K q, List.mem_map.mpr ⟨q, hq, rfl⟩, rfl⟩
  · obtain ⟨fd', F', G⟩ := ok base fun p hp => tb _ (List.mem_map.mpr ⟨p, hp, rfl⟩)
    have e := F.uniq F'
    subst e
    exact G.gdt
theorem Fn.bind1 {K : PySem.W.Frag} {x0 qual x : Str} {st : Stmt} {f : Addr} {fd : FuncData} {cdv : Value} (F : Fn K x0 qual st f fd cdv)
    (h : ∀ (kV doc pm : Value) (an : Option Addr) (cdv ct : Value) (u : Value), bindArgs (PySem.W.fnOf x0 qual (defArgs st) (defBody st) (defScope st) .none kV doc pm an cdv ct) ⟨[u], []⟩ = pure [(x, u)]) (s : Shared) (u : Value) : BindsTo s fd ⟨[u], []⟩ [(x, u)] := by
  obtain ⟨oc, od, kV, doc, pm, an, ct, osl, rfl, lk, hcd⟩ := F.ex
  exact .of_eq (h kV doc pm an cdv ct u)
end TQ
set_option maxHeartbeats 4000000
namespace TQ
open PySem PySem.Spec PyProof.Rows L2
/-! ### running the machines: what holds when one has answered -/
def Rs.H {S α : Type} (r : Rs S α) (Q : α → S → Prop) : Prop := match r with
  | .ok a s => Q a s
  | _ => False
@[simp] theorem H_ok {S α : Type} {a : α} {s : S} {Q : α → S → Prop} : (Rs.ok a s).H Q = Q a s := rfl
@[simp] theorem H_stuck {S α : Type} {Q : α → S → Prop} : (Rs.stuck : Rs S α).H Q = False := rfl
theorem Rs.H.imp {S α : Type} {r : Rs S α} {Q Q' : α → S → Prop} (h : r.H Q) (i : ∀ a s, Q a s → Q' a s) : r.H Q' := by
  cases r with
  | ok a s => exact i a s h
  | exc c w s => exact h
  | stuck => exact h
theorem Rs.H.eq {S α : Type} {r : Rs S α} {a : α} {s : S} (h : r.H fun b t => b = a ∧ t = s) : r = .ok a s := by
  cases r with
  | ok b t => obtain ⟨rfl, rfl⟩ := h; rfl
  | exc c w s => exact h.elim
  | stuck => exact h.elim
theorem Rs.H.ex {S α : Type} {r : Rs S α} {Q : α → S → Prop} (h : r.H Q) : ∃ a s, r = .ok a s ∧ Q a s := by
  cases r with
  | ok b t => exact ⟨b, t, rfl, h⟩
  | exc c w s => exact h.elim
  | stuck => exact h.elim
theorem Rs.H.of {S α : Type} {r : Rs S α} {a : α} {s : S} {Q : α → S → Prop} (e : r = .ok a s) (h : Q a s) : r.H Q := by rw [e]; exact h
@[simp] theorem H_ite {S α : Type} {c : Prop} [Decidable c] {x y : Rs S α} {Q : α → S → Prop} : (if c then x else y).H Q = if c then x.H Q else y.H Q := by split <;> rfl
@[simp] theorem x_ret {α : Type} {a : α} {s : Sd} {Q} : (mRet a s).H Q = Q a s := rfl
theorem x_bind {α β : Type} {m : M α} {k : α → M β} {s : Sd} {Q} : (mBind m k s).H Q = (m s).H fun a s' => (k a s').H Q := by
  unfold mBind; cases m s <;> rfl
theorem x_sbind {α : Type} {m : M α} {k : α → Sm} {s : Sd} {Q} : (sBind m k s).H Q = (m s).H fun a s' => (k a s').H Q := by
  unfold sBind; cases m s <;> rfl
def opH {α : Type} (o : Option α) (Q : α → Prop) : Prop := match o with
  | some a => Q a
  | none => False
@[simp] theorem opH_some {α : Type} {a : α} {Q : α → Prop} : opH (some a) Q = Q a := rfl
@[simp] theorem opH_none {α : Type} {Q : α → Prop} : opH none Q = False := rfl
@[simp] theorem opH_ite {α : Type} {c : Prop} [Decidable c] {x y : Option α} {Q : α → Prop} : opH (if c then x else y) Q = if c then opH x Q else opH y Q := by split <;> rfl
def kNm (i : Nat) (s : Sd) (Q : Opd → Sd → Prop) (_ : D) : Prop := Q (.nm i) s
@[simp] theorem kNm_at {i s Q d} : kNm i s Q d = Q (.nm i) s := rfl
@[simp] theorem x_nm {i : Nat} {s : Sd} {Q} : (mNm i s).H Q = opH (s[i]?).join (kNm i s Q) := by
  unfold mNm; cases (s[i]?).join <;> rfl
@[simp] theorem x_c {d : D} {s : Sd} {Q} : (mC d s).H Q = Q (.own d) s := rfl
@[simp] theorem x_nil {s : Sd} {Q} : (mNil s).H Q = Q [] s := rfl
def kCons2 (o : Opd) (Q : List Opd → Sd → Prop) (os : List Opd) (s : Sd) : Prop := Q (o :: os) s
@[simp] theorem kCons2_at {o Q os s} : kCons2 o Q os s = Q (o :: os) s := rfl
def kCons (ms : M (List Opd)) (Q : List Opd → Sd → Prop) (o : Opd) (s : Sd) : Prop := (ms s).H (kCons2 o Q)
@[simp] theorem kCons_at {ms Q o s} : kCons ms Q o s = (ms s).H (kCons2 o Q) := rfl
@[simp] theorem x_cons {m : M Opd} {ms : M (List Opd)} {s : Sd} {Q} : (mCons m ms s).H Q = (m s).H (kCons ms Q) := by
  unfold mCons; rw [x_bind]; congr 1; funext o s1; rw [x_bind]; rfl
@[simp] theorem get_own {d : D} {s : Sd} : (Opd.own d).get s = some d := rfl
@[simp] theorem get_nm {i : Nat} {s : Sd} : (Opd.nm i).get s = (s[i]?).join := rfl
@[simp] theorem gets_nil {s : Sd} : getAll s [] = some [] := rfl
def kMap (s : Sd) (os : List Opd) (d : D) : Option (List D) := (getAll s os).map (List.cons d)
@[simp] theorem kMap_at {s os d} : kMap s os d = (getAll s os).map (List.cons d) := rfl
@[simp] theorem gets_cons {o : Opd} {os : List Opd} {s : Sd} : getAll s (o :: os) = (o.get s).bind (kMap s os) := by
  rw [getAll]
  unfold kMap
  cases o.get s <;> cases getAll s os <;> rfl
def kApp3 (s : Sd) (Q : Opd → Sd → Prop) (d : D) : Prop := Q (.own d) s
@[simp] theorem kApp3_at {s Q d} : kApp3 s Q d = Q (.own d) s := rfl
def kApp2 (f : List D → Option D) (s : Sd) (Q : Opd → Sd → Prop) (l : List D) : Prop := opH (f l) (kApp3 s Q)
@[simp] theorem kApp2_at {f s Q l} : kApp2 f s Q l = opH (f l) (kApp3 s Q) := rfl
def kApp (f : List D → Option D) (Q : Opd → Sd → Prop) (os : List Opd) (s : Sd) : Prop := opH (getAll s os) (kApp2 f s Q)
@[simp] theorem kApp_at {f Q os s} : kApp f Q os s = opH (getAll s os) (kApp2 f s Q) := rfl
@[simp] theorem x_app {ms : M (List Opd)} {f : List D → Option D} {s : Sd} {Q} : (mApp ms f s).H Q = (ms s).H (kApp f Q) := by
  unfold mApp
  rw [x_bind]
  congr 1
  funext os s1
  unfold kApp
  cases e : getAll s1 os with
  | none => simp only [e]; rfl
  | some l => simp only [e, opH_some]; unfold kApp2; cases f l <;> rfl
/-- a bool's, an int's value -/
def D.bl? : D → Option Bool | .bl b => some b | _ => none
def D.int? : D → Option Int | .int i => some i | _ => none
@[simp] theorem bl?_bl {b : Bool} : (D.bl b).bl? = some b := rfl
@[simp] theorem int?_int {b : Int} : (D.int b).int? = some b := rfl
def kV {α : Type} (s : Sd) (Q : α → Sd → Prop) (b : α) : Prop := Q b s
@[simp] theorem kV_at {α : Type} {s Q} {b : α} : kV s Q b = Q b s := rfl
def kTest (Q : Bool → Sd → Prop) (o : Opd) (s : Sd) : Prop := opH ((o.get s).bind D.bl?) (kV s Q)
@[simp] theorem kTest_at {Q o s} : kTest Q o s = opH ((o.get s).bind D.bl?) (kV s Q) := rfl
@[simp] theorem x_test {m : M Opd} {s : Sd} {Q} : (mTest m s).H Q = (m s).H (kTest Q) := by
  unfold mTest
  rw [x_bind]
  congr 1
  funext o s1
  unfold kTest
  cases o.get s1 with
  | none => rfl
  | some d => cases d <;> rfl
def kInt (Q : Int → Sd → Prop) (o : Opd) (s : Sd) : Prop := opH ((o.get s).bind D.int?) (kV s Q)
@[simp] theorem kInt_at {Q o s} : kInt Q o s = opH ((o.get s).bind D.int?) (kV s Q) := rfl
@[simp] theorem x_int {m : M Opd} {s : Sd} {Q} : (mInt m s).H Q = (m s).H (kInt Q) := by
  unfold mInt
  rw [x_bind]
  congr 1
  funext o s1
  unfold kInt
  cases o.get s1 with
  | none => rfl
  | some d => cases d <;> rfl
def kAnd (b : M Bool) (Q : Bool → Sd → Prop) (c : Bool) (s : Sd) : Prop := if c = true then (b s).H Q else Q false s
@[simp] theorem kAnd_at {b Q c s} : kAnd b Q c s = if c = true then (b s).H Q else Q false s := rfl
@[simp] theorem x_and {a b : M Bool} {s : Sd} {Q} : (mAndT a b s).H Q = (a s).H (kAnd b Q) := by
  unfold mAndT
  rw [x_bind]
  congr 1
  funext c s1
  cases c <;> rfl
def kOr (b : M Bool) (Q : Bool → Sd → Prop) (c : Bool) (s : Sd) : Prop := if c = true then Q true s else (b s).H Q
@[simp] theorem kOr_at {b Q c s} : kOr b Q c s = if c = true then Q true s else (b s).H Q := rfl
@[simp] theorem x_or {a b : M Bool} {s : Sd} {Q} : (mOrT a b s).H Q = (a s).H (kOr b Q) := by
  unfold mOrT
  rw [x_bind]
  congr 1
  funext c s1
  cases c <;> rfl
def kNot (Q : Bool → Sd → Prop) (c : Bool) (s : Sd) : Prop := Q (!c) s
@[simp] theorem kNot_at {Q c s} : kNot Q c s = Q (!c) s := rfl
@[simp] theorem x_not {a : M Bool} {s : Sd} {Q} : (mNotT a s).H Q = (a s).H (kNot Q) := by
  unfold mNotT; rw [x_bind]; rfl
def kB (Q : Opd → Sd → Prop) (c : Bool) (s : Sd) : Prop := Q (.own (.bl c)) s
@[simp] theorem kB_at {Q c s} : kB Q c s = Q (.own (.bl c)) s := rfl
@[simp] theorem x_b {t : M Bool} {s : Sd} {Q} : (mB t s).H Q = (t s).H (kB Q) := by
  unfold mB; rw [x_bind]; rfl
def kAndV (b : M Opd) (Q : Opd → Sd → Prop) (c : Bool) (s : Sd) : Prop := if c = true then (b s).H Q else Q (.own (.bl false)) s
@[simp] theorem kAndV_at {b Q c s} : kAndV b Q c s = if c = true then (b s).H Q else Q (.own (.bl false)) s := rfl
@[simp] theorem x_andv {a b : M Opd} {s : Sd} {Q} : (mAndV a b s).H Q = (mTest a s).H (kAndV b Q) := by
  unfold mAndV
  rw [x_bind]
  congr 1
  funext c s1
  cases c <;> rfl
def kOrV (b : M Opd) (Q : Opd → Sd → Prop) (c : Bool) (s : Sd) : Prop := if c = true then Q (.own (.bl true)) s else (b s).H Q
@[simp] theorem kOrV_at {b Q c s} : kOrV b Q c s = if c = true then Q (.own (.bl true)) s else (b s).H Q := rfl
@[simp] theorem x_orv {a b : M Opd} {s : Sd} {Q} : (mOrV a b s).H Q = (mTest a s).H (kOrV b Q) := by
  unfold mOrV
  rw [x_bind]
  congr 1
  funext c s1
  cases c <;> rfl
def kIf {α : Type} (a b : M α) (Q : α → Sd → Prop) (c : Bool) (s : Sd) : Prop := if c = true then (a s).H Q else (b s).H Q
@[simp] theorem kIf_at {α : Type} {a b : M α} {Q c s} : kIf a b Q c s = if c = true then (a s).H Q else (b s).H Q := rfl
@[simp] theorem x_if {α : Type} {t : M Bool} {a b : M α} {s : Sd} {Q} : (mIf t a b s).H Q = (t s).H (kIf a b Q) := by
  unfold mIf
  rw [x_bind]
  congr 1
  funext c s1
  cases c <;> rfl
def kCh3 (g : Int → Int → Bool) (j : Int) (Q : Opd → Sd → Prop) (k : Int) (s : Sd) : Prop := Q (.own (.bl (g j k))) s
@[simp] theorem kCh3_at {g j Q k s} : kCh3 g j Q k s = Q (.own (.bl (g j k))) s := rfl
def kCh2 (f g : Int → Int → Bool) (c : M Opd) (i : Int) (Q : Opd → Sd → Prop) (j : Int) (s : Sd) : Prop := if f i j = true then (mInt c s).H (kCh3 g j Q) else Q (.own (.bl false)) s
@[simp] theorem kCh2_at {f g c i Q j s} : kCh2 f g c i Q j s = if f i j = true then (mInt c s).H (kCh3 g j Q) else Q (.own (.bl false)) s := rfl
def kCh1 (f g : Int → Int → Bool) (b c : M Opd) (Q : Opd → Sd → Prop) (i : Int) (s : Sd) : Prop := (mInt b s).H (kCh2 f g c i Q)
@[simp] theorem kCh1_at {f g b c Q i s} : kCh1 f g b c Q i s = (mInt b s).H (kCh2 f g c i Q) := rfl
@[simp] theorem x_chain {f g : Int → Int → Bool} {a b c : M Opd} {s : Sd} {Q} : (mChain f g a b c s).H Q = (mInt a s).H (kCh1 f g b c Q) := by
  unfold mChain
  rw [x_bind]
  congr 1
  funext i s1
  rw [x_bind]
  unfold kCh1
  congr 1
  funext j s2
  unfold kCh2
  cases f i j with
  | true => rw [if_pos rfl, if_pos rfl, x_bind]; rfl
  | false => rfl
/-- into own hands -/
def kTo (i : Nat) (s : Sd) (Q : D → Sd → Prop) (d : D) : Prop := if d.pure = true then Q d s else Q d (s.set i none)
@[simp] theorem kTo_at {i s Q d} : kTo i s Q d = if d.pure = true then Q d s else Q d (s.set i none) := rfl
@[simp] theorem x_own {d : D} {s : Sd} {Q} : (toOwn (.own d) s).H Q = Q d s := rfl
@[simp] theorem x_ownn {i : Nat} {s : Sd} {Q} : (toOwn (.nm i) s).H Q = opH (s[i]?).join (kTo i s Q) := by
  unfold toOwn
  cases e : (s[i]?).join with
  | none => simp only [e]; rfl
  | some d => simp only [e, opH_some, kTo]; cases d.pure <;> rfl
def kOw2 (d : D) (Q : List D → Sd → Prop) (l : List D) (s : Sd) : Prop := Q (d :: l) s
@[simp] theorem kOw2_at {d Q l s} : kOw2 d Q l s = Q (d :: l) s := rfl
def kOw (os : List Opd) (Q : List D → Sd → Prop) (d : D) (s : Sd) : Prop := (ownAll os s).H (kOw2 d Q)
@[simp] theorem kOw_at {os Q d s} : kOw os Q d s = (ownAll os s).H (kOw2 d Q) := rfl
@[simp] theorem x_owns_nil {s : Sd} {Q} : (ownAll [] s).H Q = Q [] s := rfl
@[simp] theorem x_owns {o : Opd} {os : List Opd} {s : Sd} {Q} : (ownAll (o :: os) s).H Q = (toOwn o s).H (kOw os Q) := by
  rw [ownAll, x_bind]; congr 1; funext d s1; rw [x_bind]; rfl
def kMk2 (mk : List D → D) (Q : Opd → Sd → Prop) (l : List D) (s : Sd) : Prop := Q (.own (mk l)) s
@[simp] theorem kMk2_at {mk Q l s} : kMk2 mk Q l s = Q (.own (mk l)) s := rfl
def kMk (mk : List D → D) (Q : Opd → Sd → Prop) (os : List Opd) (s : Sd) : Prop := (ownAll os s).H (kMk2 mk Q)
@[simp] theorem kMk_at {mk Q os s} : kMk mk Q os s = (ownAll os s).H (kMk2 mk Q) := rfl
@[simp] theorem x_tup {ms : M (List Opd)} {s : Sd} {Q} : (mTup ms s).H Q = (ms s).H (kMk D.tup Q) := by
  unfold mTup; rw [x_bind]; congr 1; funext d s1; rw [x_bind]; rfl
@[simp] theorem x_lst {ms : M (List Opd)} {s : Sd} {Q} : (mLst ms s).H Q = (ms s).H (kMk D.lst Q) := by
  unfold mLst; rw [x_bind]; congr 1; funext d s1; rw [x_bind]; rfl
def kCall3 (os : List Opd) (l : List D) (s : Sd) (Q : Opd → Sd → Prop) (d : D) (l' : List D) : Prop := Q (.own d) (wb os l l' s)
@[simp] theorem kCall3_at {os l s Q d l'} : kCall3 os l s Q d l' = Q (.own d) (wb os l l' s) := rfl
def kCall2 (g : FM) (os : List Opd) (Q : Opd → Sd → Prop) (l : List D) (s : Sd) : Prop := (g l).H (kCall3 os l s Q)
@[simp] theorem kCall2_at {g os Q l s} : kCall2 g os Q l s = (g l).H (kCall3 os l s Q) := rfl
def kCall (g : FM) (Q : Opd → Sd → Prop) (os : List Opd) (s : Sd) : Prop := (ownAll os s).H (kCall2 g os Q)
@[simp] theorem kCall_at {g Q os s} : kCall g Q os s = (ownAll os s).H (kCall2 g os Q) := rfl
@[simp] theorem x_call {g : FM} {ms : M (List Opd)} {s : Sd} {Q} : (mCall g ms s).H Q = (ms s).H (kCall g Q) := by
  unfold mCall; rw [x_bind]; congr 1; funext os s1; rw [x_bind]; unfold kCall; congr 1; funext l s2; unfold kCall2; cases g l <;> rfl
@[simp] theorem wb_nil {l l' : List D} {s : Sd} : wb [] l l' s = s := by unfold wb; rfl
@[simp] theorem wb_own {d d0 d' : D} {os : List Opd} {l l' : List D} {s : Sd} : wb (.own d0 :: os) (d :: l) (d' :: l') s = wb os l l' s := by
  rw [wb]
@[simp] theorem wb_nm {i : Nat} {d d' : D} {os : List Opd} {l l' : List D} {s : Sd} : wb (.nm i :: os) (d :: l) (d' :: l') s = if d.pure = true then wb os l l' s else wb os l l' (s.set i (some d')) := by
  rw [wb]
def kPerm2 (pm : List Nat) (s : Sd) (Q : List Opd → Sd → Prop) (l : List D) : Prop := if pureL l = true then Q ((permL pm l).map Opd.own) s else False
@[simp] theorem kPerm2_at {pm s Q l} : kPerm2 pm s Q l = if pureL l = true then Q ((permL pm l).map Opd.own) s else False := rfl
def kPerm (pm : List Nat) (Q : List Opd → Sd → Prop) (os : List Opd) (s : Sd) : Prop := opH (getAll s os) (kPerm2 pm s Q)
@[simp] theorem kPerm_at {pm Q os s} : kPerm pm Q os s = opH (getAll s os) (kPerm2 pm s Q) := rfl
@[simp] theorem x_perm {pm : List Nat} {ms : M (List Opd)} {s : Sd} {Q} : (mPerm pm ms s).H Q = (ms s).H (kPerm pm Q) := by
  unfold mPerm; rw [x_bind]; congr 1; funext os s1
  unfold kPerm
  cases e : getAll s1 os with
  | none => rfl
  | some l => simp only [opH_some, kPerm2]; split <;> rfl
def kHeard2 (Q : Opd → Sd → Prop) (d : D) (s : Sd) : Prop := Q (.own (.tup [.str "told", d])) s
@[simp] theorem kHeard2_at {Q d s} : kHeard2 Q d s = Q (.own (.tup [.str "told", d])) s := rfl
def kHeard (Q : Opd → Sd → Prop) (o : Opd) (s : Sd) : Prop := (toOwn o s).H (kHeard2 Q)
@[simp] theorem kHeard_at {Q o s} : kHeard Q o s = (toOwn o s).H (kHeard2 Q) := rfl
@[simp] theorem x_heard {m : M Opd} {s : Sd} {Q} : (mHeard m s).H Q = (m s).H (kHeard Q) := by
  unfold mHeard
  cases m s with
  | ok o s1 =>
    simp only [H_ok, kHeard]
    cases toOwn o s1 <;> rfl
  | exc c w s1 => rfl
  | stuck => rfl
/-! statements -/
@[simp] theorem x_next {s : Sd} {Q} : (sNext s).H Q = Q .next s := rfl
@[simp] theorem x_brk {s : Sd} {Q} : (sBrk s).H Q = Q .brk s := rfl
@[simp] theorem x_cont {s : Sd} {Q} : (sCont s).H Q = Q .cont s := rfl
@[simp] theorem x_retn {s : Sd} {Q} : (sRetN s).H Q = Q (.ret .non) s := rfl
def flH (k : Sm) (Q : Fl → Sd → Prop) (fl : Fl) (s : Sd) : Prop := match fl with
  | .next => (k s).H Q
  | fl => Q fl s
@[simp] theorem flH_next {s : Sd} {k : Sm} {Q} : flH k Q .next s = (k s).H Q := rfl
@[simp] theorem flH_ret {s : Sd} {k : Sm} {d} {Q} : flH k Q (.ret d) s = Q (.ret d) s := rfl
@[simp] theorem flH_brk {s : Sd} {k : Sm} {Q} : flH k Q .brk s = Q .brk s := rfl
@[simp] theorem flH_cont {s : Sd} {k : Sm} {Q} : flH k Q .cont s = Q .cont s := rfl
@[simp] theorem x_seq {a b : Sm} {s : Sd} {Q} : (sSeq a b s).H Q = (a s).H (flH b Q) := by
  unfold sSeq
  cases a s with
  | ok fl s1 => cases fl <;> rfl
  | exc c w s1 => rfl
  | stuck => rfl
def kDrop (Q : Fl → Sd → Prop) (_ : Opd) (s : Sd) : Prop := Q .next s
@[simp] theorem kDrop_at {Q o s} : kDrop Q o s = Q .next s := rfl
@[simp] theorem x_drop {m : M Opd} {s : Sd} {Q} : (sDrop m s).H Q = (m s).H (kDrop Q) := by
  unfold sDrop; rw [x_sbind]; rfl
def kRet2 (Q : Fl → Sd → Prop) (d : D) (s : Sd) : Prop := Q (.ret d) s
@[simp] theorem kRet2_at {Q d s} : kRet2 Q d s = Q (.ret d) s := rfl
def kRet (Q : Fl → Sd → Prop) (o : Opd) (s : Sd) : Prop := (toOwn o s).H (kRet2 Q)
@[simp] theorem kRet_at {Q o s} : kRet Q o s = (toOwn o s).H (kRet2 Q) := rfl
@[simp] theorem x_sret {m : M Opd} {s : Sd} {Q} : (sRet m s).H Q = (m s).H (kRet Q) := by
  unfold sRet; rw [x_sbind]; congr 1; funext o s1; rw [x_sbind]; rfl
def kSif (a b : Sm) (Q : Fl → Sd → Prop) (c : Bool) (s : Sd) : Prop := if c = true then (a s).H Q else (b s).H Q
@[simp] theorem kSif_at {a b Q c s} : kSif a b Q c s = if c = true then (a s).H Q else (b s).H Q := rfl
@[simp] theorem x_sif {t : M Bool} {a b : Sm} {s : Sd} {Q} : (sIf t a b s).H Q = (t s).H (kSif a b Q) := by
  unfold sIf; rw [x_sbind]; congr 1; funext c s1; cases c <;> rfl
def kSet2 (i : Nat) (Q : Fl → Sd → Prop) (d : D) (s : Sd) : Prop := if i < s.length then Q .next (s.set i (some d)) else False
@[simp] theorem kSet2_at {i Q d s} : kSet2 i Q d s = if i < s.length then Q .next (s.set i (some d)) else False := rfl
def kSet (i : Nat) (Q : Fl → Sd → Prop) (o : Opd) (s : Sd) : Prop := (toOwn o s).H (kSet2 i Q)
@[simp] theorem kSet_at {i Q o s} : kSet i Q o s = (toOwn o s).H (kSet2 i Q) := rfl
@[simp] theorem x_set {i : Nat} {m : M Opd} {s : Sd} {Q} : (sSet i m s).H Q = (m s).H (kSet i Q) := by
  unfold sSet; rw [x_sbind]; congr 1; funext o s1; rw [x_sbind]; unfold kSet; congr 1; funext d s2; unfold kSet2; split <;> rfl
@[simp] theorem x_stuckS {s : Sd} {Q} : (sStuck s).H Q = False := rfl
def parH (i j : Nat) (Q : Fl → Sd → Prop) (l : List D) (s : Sd) : Prop := match l with
  | [a, b] => if i < s.length ∧ j < s.length then Q .next ((s.set i (some a)).set j (some b)) else False
  | _ => False
@[simp] theorem parH_two {i j : Nat} {a b : D} {s : Sd} {Q} : parH i j Q [a, b] s = if i < s.length ∧ j < s.length then Q .next ((s.set i (some a)).set j (some b)) else False := rfl
def kPar (i j : Nat) (Q : Fl → Sd → Prop) (os : List Opd) (s : Sd) : Prop := (ownAll os s).H (parH i j Q)
@[simp] theorem kPar_at {i j Q os s} : kPar i j Q os s = (ownAll os s).H (parH i j Q) := rfl
@[simp] theorem x_par {i j : Nat} {ms : M (List Opd)} {s : Sd} {Q} : (sPar i j ms s).H Q = (ms s).H (kPar i j Q) := by
  unfold sPar; rw [x_sbind]; congr 1; funext os s1; rw [x_sbind]; unfold kPar; congr 1; funext l s2
  unfold parH
  match l with
  | [] => rfl
  | [_] => rfl
  | [a, b] => simp only; split <;> rfl
  | _ :: _ :: _ :: _ => rfl
def kAsg2 (g : Tg) (Q : Fl → Sd → Prop) (d : D) (s : Sd) : Prop := opH (g d s) (Q .next)
@[simp] theorem kAsg2_at {g Q d s} : kAsg2 g Q d s = opH (g d s) (Q .next) := rfl
def kAsg (g : Tg) (Q : Fl → Sd → Prop) (o : Opd) (s : Sd) : Prop := (toOwn o s).H (kAsg2 g Q)
@[simp] theorem kAsg_at {g Q o s} : kAsg g Q o s = (toOwn o s).H (kAsg2 g Q) := rfl
@[simp] theorem x_asg {g : Tg} {m : M Opd} {s : Sd} {Q} : (sAsg g m s).H Q = (m s).H (kAsg g Q) := by
  unfold sAsg; rw [x_sbind]; congr 1; funext o s1; rw [x_sbind]; unfold kAsg; congr 1; funext d s2; unfold kAsg2; cases g d s2 <;> rfl
def D.lst? : D → Option (List D) | .lst l => some l | _ => none
@[simp] theorem lst?_lst {l : List D} : (D.lst l).lst? = some l := rfl
def kSt5 (j : Nat) (d : D) (l : List D) (s : Sd) (Q : Fl → Sd → Prop) (n : Nat) : Prop := Q .next (s.set j (some (.lst (l.set n d))))
@[simp] theorem kSt5_at {j d l s Q n} : kSt5 j d l s Q n = Q .next (s.set j (some (.lst (l.set n d)))) := rfl
def kSt4 (j : Nat) (d : D) (i : Int) (s : Sd) (Q : Fl → Sd → Prop) (l : List D) : Prop := opH (ixN l.length i) (kSt5 j d l s Q)
@[simp] theorem kSt4_at {j d i s Q l} : kSt4 j d i s Q l = opH (ixN l.length i) (kSt5 j d l s Q) := rfl
def kSt3 (j : Nat) (d : D) (Q : Fl → Sd → Prop) (i : Int) (s : Sd) : Prop := opH ((s[j]?).join.bind D.lst?) (kSt4 j d i s Q)
@[simp] theorem kSt3_at {j d Q i s} : kSt3 j d Q i s = opH ((s[j]?).join.bind D.lst?) (kSt4 j d i s Q) := rfl
def kSt2 (j : Nat) (mi : M Opd) (d : D) (s : Sd) (Q : Fl → Sd → Prop) (_ : List D) : Prop := (mInt mi s).H (kSt3 j d Q)
@[simp] theorem kSt2_at {j mi d s Q l} : kSt2 j mi d s Q l = (mInt mi s).H (kSt3 j d Q) := rfl
def kSt1 (j : Nat) (mi : M Opd) (Q : Fl → Sd → Prop) (d : D) (s : Sd) : Prop := opH ((s[j]?).join.bind D.lst?) (kSt2 j mi d s Q)
@[simp] theorem kSt1_at {j mi Q d s} : kSt1 j mi Q d s = opH ((s[j]?).join.bind D.lst?) (kSt2 j mi d s Q) := rfl
def kSt0 (j : Nat) (mi : M Opd) (Q : Fl → Sd → Prop) (o : Opd) (s : Sd) : Prop := (toOwn o s).H (kSt1 j mi Q)
@[simp] theorem kSt0_at {j mi Q o s} : kSt0 j mi Q o s = (toOwn o s).H (kSt1 j mi Q) := rfl
@[simp] theorem x_store {j : Nat} {mv mi : M Opd} {s : Sd} {Q} : (sStore j mv mi s).H Q = (mv s).H (kSt0 j mi Q) := by
  unfold sStore; rw [x_sbind]; congr 1; funext o s1; rw [x_sbind]; unfold kSt0; congr 1; funext d s2
  unfold sChk kSt1
  cases e : (s2[j]?).join with
  | none => rfl
  | some dj =>
    cases dj with
    | lst l0 =>
      simp only [Option.bind_some, lst?_lst, opH_some, kSt2]
      rw [x_sbind]; congr 1; funext i s3
      unfold kSt3
      cases e3 : (s3[j]?).join with
      | none => rfl
      | some d3 =>
        cases d3 with
        | lst l => simp only [Option.bind_some, lst?_lst, opH_some, kSt4]; cases ixN l.length i <;> rfl
        | _ => rfl
    | _ => rfl
def kMe4 (j : Nat) (s : Sd) (Q : Opd → Sd → Prop) (p : List D × D) : Prop := Q (.own p.2) (s.set j (some (.lst p.1)))
@[simp] theorem kMe4_at {j s Q} {a : List D} {b : D} : kMe4 j s Q (a, b) = Q (.own b) (s.set j (some (.lst a))) := rfl
def kMe3 (j : Nat) (f : List D → List D → Option (List D × D)) (l : List D) (s : Sd) (Q : Opd → Sd → Prop) (xs : List D) : Prop := opH (f xs l) (kMe4 j s Q)
@[simp] theorem kMe3_at {j f l s Q xs} : kMe3 j f l s Q xs = opH (f xs l) (kMe4 j s Q) := rfl
def kMe2 (j : Nat) (f : List D → List D → Option (List D × D)) (Q : Opd → Sd → Prop) (l : List D) (s : Sd) : Prop := opH ((s[j]?).join.bind D.lst?) (kMe3 j f l s Q)
@[simp] theorem kMe2_at {j f Q l s} : kMe2 j f Q l s = opH ((s[j]?).join.bind D.lst?) (kMe3 j f l s Q) := rfl
def kMe1 (j : Nat) (f : List D → List D → Option (List D × D)) (Q : Opd → Sd → Prop) (os : List Opd) (s : Sd) : Prop := (ownAll os s).H (kMe2 j f Q)
@[simp] theorem kMe1_at {j f Q os s} : kMe1 j f Q os s = (ownAll os s).H (kMe2 j f Q) := rfl
def kMe0 (j : Nat) (ms : M (List Opd)) (f : List D → List D → Option (List D × D)) (s : Sd) (Q : Opd → Sd → Prop) (_ : List D) : Prop := (ms s).H (kMe1 j f Q)
@[simp] theorem kMe0_at {j ms f s Q l} : kMe0 j ms f s Q l = (ms s).H (kMe1 j f Q) := rfl
@[simp] theorem x_meth {j : Nat} {ms : M (List Opd)} {f : List D → List D → Option (List D × D)} {s : Sd} {Q} : (mMeth j ms f s).H Q = opH ((s[j]?).join.bind D.lst?) (kMe0 j ms f s Q) := by
  unfold mMeth
  cases e : (s[j]?).join with
  | none => rfl
  | some dj =>
    cases dj with
    | lst l0 =>
      simp only [Option.bind_some, lst?_lst, opH_some, kMe0]
      rw [x_bind]; congr 1; funext os s1
      rw [x_bind]; unfold kMe1; congr 1; funext l s2
      unfold kMe2
      cases e3 : (s2[j]?).join with
      | none => rfl
      | some d3 =>
        cases d3 with
        | lst xs =>
          simp only [Option.bind_some, lst?_lst, opH_some, kMe3]
          cases f xs l with
          | none => rfl
          | some p => rfl
        | _ => rfl
    | _ => rfl
@[simp] theorem t_nm {i : Nat} {d : D} {s : Sd} : gNm i d s = if i < s.length then some (s.set i (some d)) else none := rfl
@[simp] theorem t_nil {s : Sd} : gNil' [] s = some s := rfl
@[simp] theorem t_cons {g : Tg} {gs} {d : D} {l : List D} {s : Sd} : gCons' g gs (d :: l) s = (g d s).bind (gs l) := by
  unfold gCons'; simp only; cases e : g d s <;> rfl
@[simp] theorem t_tup {n : Nat} {gs} {l : List D} {s : Sd} : gTup' n gs (.tup l) s = if l.length = n then gs l s else none := rfl
def kSl4 (f : List D → Option D) (s : Sd) (Q : Opd → Sd → Prop) (d : D) : Prop := opH (f [d]) (kApp3 s Q)
@[simp] theorem kSl4_at {f s Q d} : kSl4 f s Q d = opH (f [d]) (kApp3 s Q) := rfl
def kSl3 (f : Option Int → Option Int → List D → Option D) (o : Opd) (lo : Option Int) (Q : Opd → Sd → Prop) (hi : Option Int) (s : Sd) : Prop := opH (o.get s) (kSl4 (f lo hi) s Q)
@[simp] theorem kSl3_at {f o lo Q hi s} : kSl3 f o lo Q hi s = opH (o.get s) (kSl4 (f lo hi) s Q) := rfl
def kSl2 (mu : M (Option Int)) (f : Option Int → Option Int → List D → Option D) (o : Opd) (Q : Opd → Sd → Prop) (lo : Option Int) (s : Sd) : Prop := (mu s).H (kSl3 f o lo Q)
@[simp] theorem kSl2_at {mu f o Q lo s} : kSl2 mu f o Q lo s = (mu s).H (kSl3 f o lo Q) := rfl
def kSl1 (ml mu : M (Option Int)) (f : Option Int → Option Int → List D → Option D) (Q : Opd → Sd → Prop) (o : Opd) (s : Sd) : Prop := (ml s).H (kSl2 mu f o Q)
@[simp] theorem kSl1_at {ml mu f Q o s} : kSl1 ml mu f Q o s = (ml s).H (kSl2 mu f o Q) := rfl
@[simp] theorem x_slice {ma : M Opd} {ml mu : M (Option Int)} {f} {s : Sd} {Q} : (mSlice ma ml mu f s).H Q = (ma s).H (kSl1 ml mu f Q) := by
  unfold mSlice; rw [x_bind]; congr 1; funext o s1; rw [x_bind]; unfold kSl1; congr 1; funext lo s2; rw [x_bind]; unfold kSl2; congr 1; funext hi s3
  unfold kSl3
  cases o.get s3 with
  | none => rfl
  | some d => simp only [opH_some, kSl4]; cases f lo hi [d] <;> rfl
@[simp] theorem x_nopart {s : Sd} {Q} : (mNoPart s).H Q = Q none s := rfl
def kPart (Q : Option Int → Sd → Prop) (i : Int) (s : Sd) : Prop := Q (some i) s
@[simp] theorem kPart_at {Q i s} : kPart Q i s = Q (some i) s := rfl
@[simp] theorem x_part {m : M Opd} {s : Sd} {Q} : (mPart m s).H Q = (mInt m s).H (kPart Q) := by
  unfold mPart; rw [x_bind]; rfl
/-! a def -/
def retH (kp : List Nat) (dl : List D) (Q : D → List D → Prop) (fl : Fl) (s : Sd) : Prop := match fl with
  | .ret d => opH (backs kp s 0 dl) (Q d)
  | .next => opH (backs kp s 0 dl) (Q .non)
  | _ => False
@[simp] theorem retH_ret {kp dl Q d s} : retH kp dl Q (.ret d) s = opH (backs kp s 0 dl) (Q d) := rfl
@[simp] theorem retH_next {kp dl Q s} : retH kp dl Q .next s = opH (backs kp s 0 dl) (Q .non) := rfl
theorem x_fn {n np : Nat} {kp : List Nat} {body : Sm} {dl : List D} {Q} (h : dl.length = np) : (fnM n np kp body dl).H Q = (body (dl.map some ++ List.replicate (n - np) none)).H (retH kp dl Q) := by
  unfold fnM
  rw [if_pos h]
  cases body (dl.map some ++ List.replicate (n - np) none) with
  | ok fl s =>
    cases fl with
    | next => show _ = opH _ _; cases e : backs kp s 0 dl <;> simp [e]
    | ret d => show _ = opH _ _; cases e : backs kp s 0 dl <;> simp [e]
    | brk => rfl
    | cont => rfl
  | exc c w s => cases e : backs kp s 0 dl <;> simp [e, Rs.H]
  | stuck => rfl
def isR (d : D) (l : List D) (d' : D) (l' : List D) : Prop := d' = d ∧ l' = l
@[simp] theorem isR_at {d l d' l'} : isR d l d' l' = (d' = d ∧ l' = l) := rfl
theorem fn_run {n np : Nat} {kp : List Nat} {body : Sm} {dl : List D} {Q} (h : dl.length = np) (q : (body (dl.map some ++ List.replicate (n - np) none)).H (retH kp dl Q)) : (fnM n np kp body dl).H Q := by rw [x_fn h]; exact q
theorem fn_eq {n np : Nat} {kp : List Nat} {body : Sm} {dl l : List D} {d : D} (h : dl.length = np) (q : (body (dl.map some ++ List.replicate (n - np) none)).H (retH kp dl (isR d l))) : fnM n np kp body dl = .ok d l := (fn_run h q).eq
def kBk (kp : List Nat) (s : Sd) (i : Nat) (dl : List D) (d : D) : Option (List D) := (backs kp s (i + 1) dl).map (List.cons d)
@[simp] theorem kBk_at {kp s i dl d} : kBk kp s i dl d = (backs kp s (i + 1) dl).map (List.cons d) := rfl
@[simp] theorem backs_nil {kp s i} : backs kp s i [] = some [] := rfl
@[simp] theorem backs_cons {kp s i d dl} : backs kp s i (d :: dl) = (if i ∈ kp then (s[i]?).join else if d.pure then some d else none).bind (kBk kp s i dl) := by
  rw [backs]
  unfold kBk
  cases (if i ∈ kp then (s[i]?).join else if d.pure then some d else none) <;> cases backs kp s (i + 1) dl <;> rfl
/-! operations -/
@[simp] theorem fI_two {c : Int → Int → Bool} {g : Int → Int → D} {i j : Int} : fI c g [.int i, .int j] = if c i j = true then some (g i j) else none := rfl
@[simp] theorem fI0_two {g : Int → Int → D} {i j : Int} : fI (fun _ _ => true) g [.int i, .int j] = some (g i j) := rfl
@[simp] theorem fNeg_one {i : Int} : fNeg [.int i] = some (.int (-i)) := rfl
@[simp] theorem fAdd_int {i j : Int} : fAdd [.int i, .int j] = some (.int (i + j)) := rfl
@[simp] theorem fAdd_tup {a b : List D} : fAdd [.tup a, .tup b] = if (pureL a && pureL b && smallB (a.length + b.length)) = true then some (.tup (a ++ b)) else none := rfl
@[simp] theorem fAdd_lst {a b : List D} : fAdd [.lst a, .lst b] = if (pureL a && pureL b && smallB (a.length + b.length)) = true then some (.lst (a ++ b)) else none := rfl
@[simp] theorem fSub_int {i j : Int} : fSub [.int i, .int j] = some (.int (i - j)) := rfl
@[simp] theorem fMul_int {i j : Int} : fMul [.int i, .int j] = if (mulB i j || wideB i j) = true then some (.int (i * j)) else none := rfl
@[simp] theorem fDiv_int {i j : Int} : fDiv [.int i, .int j] = if divB i j = true then some (.int (i / j)) else none := rfl
@[simp] theorem fMod_int {i j : Int} : fMod [.int i, .int j] = if decide (0 < j) = true then some (.int (i % j)) else none := rfl
@[simp] theorem fLt_int {i j : Int} : fLt [.int i, .int j] = some (.bl (decide (i < j))) := rfl
@[simp] theorem fLe_int {i j : Int} : fLe [.int i, .int j] = some (.bl (decide (i ≤ j))) := rfl
@[simp] theorem fGt_int {i j : Int} : fGt [.int i, .int j] = some (.bl (decide (j < i))) := rfl
@[simp] theorem fGe_int {i j : Int} : fGe [.int i, .int j] = some (.bl (decide (j ≤ i))) := rfl
@[simp] theorem fIx_tup {l : List D} {i : Int} : fIx [.tup l, .int i] = (atI l i).bind fun d => if d.pure = true then some d else none := by
  unfold fIx; simp only; cases e : atI l i <;> rfl
@[simp] theorem fIx_lst {l : List D} {i : Int} : fIx [.lst l, .int i] = (atI l i).bind fun d => if d.pure = true then some d else none := by
  unfold fIx; simp only; cases e : atI l i <;> rfl
@[simp] theorem fIx_frl {l : List D} {i : Int} : fIx [.frl l, .int i] = (atI l i).bind fun d => if d.pure = true then some d else none := by
  unfold fIx; simp only; cases e : atI l i <;> rfl
@[simp] theorem fLen_tup {l : List D} : fLen [.tup l] = some (.int l.length) := rfl
@[simp] theorem fLen_lst {l : List D} : fLen [.lst l] = some (.int l.length) := rfl
@[simp] theorem fLen_frl {l : List D} : fLen [.frl l] = some (.int l.length) := rfl
@[simp] theorem fInt_int {i : Int} : fInt [.int i] = some (.int i) := rfl
@[simp] theorem fTuple_lst {l : List D} : fTuple [.lst l] = if pureL l = true then some (.tup l) else none := rfl
@[simp] theorem fTuple_tup {l : List D} : fTuple [.tup l] = if pureL l = true then some (.tup l) else none := rfl
@[simp] theorem fMax2_int {i j : Int} : fMax2 [.int i, .int j] = some (.int (if j > i then j else i)) := rfl
@[simp] theorem fMin2_int {i j : Int} : fMin2 [.int i, .int j] = some (.int (if j < i then j else i)) := rfl
@[simp] theorem fIs_non {d : D} {n : Bool} : fIs n [d, .non] = if d.noOpq = true then some (.bl (if n then !d.isNon else d.isNon)) else none := rfl
@[simp] theorem fRev_tup {l : List D} : fRev [.tup l] = if pureL l = true then some (.tup l.reverse) else none := rfl
@[simp] theorem fSl_tup {lo hi} {l : List D} : fSl lo hi [.tup l] = if pureL l = true then some (.tup (cutD l lo hi)) else none := rfl
@[simp] theorem fSl_lst {lo hi} {l : List D} : fSl lo hi [.lst l] = if pureL l = true then some (.lst (cutD l lo hi)) else none := rfl
@[simp] theorem fAppend_one {xs : List D} {d : D} : fAppend xs [d] = if xs.length < sizeLine then some (xs ++ [d], .non) else none := rfl
@[simp] theorem fExtend_one {xs ys : List D} : fExtend xs [.lst ys] = if xs.length + ys.length ≤ sizeLine then some (xs ++ ys, .non) else none := rfl
@[simp] theorem fRepr_one {d : D} : fRepr [d] = if (d.isSeq && (d.okd && decide (d.dep ≤ 64)) && (d.py.showable && decide (d.py.shown.length ≤ sizeLine))) = true then some (.str d.py.shown) else none := rfl
@[simp] theorem fNeA_str {a b : Str} : fNeA [.str a, .str b] = some (.bl (!decide (a = b))) := rfl
@[simp] theorem fEqA_str {a b : Str} : fEqA [.str a, .str b] = some (.bl (decide (a = b))) := rfl
@[simp] theorem fIsi_int {i : Int} {b : String} : fIsi [.int i, .opq (.ty b)] = if askable b = true then some (.bl (isB "int" b)) else none := rfl
@[simp] theorem fIsi_tup {l : List D} {b : String} : fIsi [.tup l, .opq (.ty b)] = if askable b = true then some (.bl (isB "tuple" b)) else none := rfl
@[simp] theorem pure_int {i : Int} : (D.int i).pure = true := rfl
@[simp] theorem pure_bl {i : Bool} : (D.bl i).pure = true := rfl
@[simp] theorem pure_non : D.non.pure = true := rfl
@[simp] theorem pure_str {i : Str} : (D.str i).pure = true := rfl
@[simp] theorem pure_opq {i : V} : (D.opq i).pure = true := rfl
@[simp] theorem pure_tup {l : List D} : (D.tup l).pure = pureL l := rfl
@[simp] theorem pure_frl {l : List D} : (D.frl l).pure = pureL l := rfl
@[simp] theorem pure_lst {l : List D} : (D.lst l).pure = false := rfl
@[simp] theorem pureL_nil : pureL [] = true := rfl
@[simp] theorem pureL_cons {d : D} {l : List D} : pureL (d :: l) = (d.pure && pureL l) := rfl
end TQ
set_option maxHeartbeats 4000000
namespace TQ
open PySem PySem.Spec PyProof.Rows L2
/-! ### loops -/
@[simp] theorem fixedI_at {l : List D} {s : Sd} : fixedI l s = some l := rfl
def kFor2 (g : ItS) (tg : Tg) (body : Sm) (s : Sd) (Q : Fl → Sd → Prop) (l : List D) : Prop := (forLoop g tg body l.length 0 s).H Q
@[simp] theorem kFor2_at {g tg body s Q l} : kFor2 g tg body s Q l = (forLoop g tg body l.length 0 s).H Q := rfl
def kFor (tg : Tg) (body : Sm) (Q : Fl → Sd → Prop) (g : ItS) (s : Sd) : Prop := opH (g s) (kFor2 g tg body s Q)
@[simp] theorem kFor_at {tg body Q g s} : kFor tg body Q g s = opH (g s) (kFor2 g tg body s Q) := rfl
@[simp] theorem x_for {mi : M ItS} {tg : Tg} {body : Sm} {s : Sd} {Q} : (sFor mi tg body s).H Q = (mi s).H (kFor tg body Q) := by
  unfold sFor; rw [x_sbind]; congr 1; funext g s1; unfold kFor; cases g s1 <;> rfl
def kTg (body : Sm) (Q : Fl → Sd → Prop) (s : Sd) : Prop := (body s).H Q
@[simp] theorem kTg_at {body Q s} : kTg body Q s = (body s).H Q := rfl
/-- what a turn may end in -/
def turnH (Q : Fl → Sd → Prop) (I : Sd → Prop) (fl : Fl) (s : Sd) : Prop := match fl with
  | .next => I s
  | .cont => I s
  | .brk => Q .next s
  | .ret d => Q (.ret d) s
@[simp] theorem turnH_next {Q I s} : turnH Q I .next s = I s := rfl
@[simp] theorem turnH_cont {Q I s} : turnH Q I .cont s = I s := rfl
@[simp] theorem turnH_brk {Q I s} : turnH Q I .brk s = Q .next s := rfl
@[simp] theorem turnH_ret {Q I s d} : turnH Q I (.ret d) s = Q (.ret d) s := rfl
theorem for_run {g : ItS} {l : List D} {n : Nat} {tg : Tg} {body : Sm} {s : Sd} {Q : Fl → Sd → Prop} (I : Nat → Sd → Prop) (hn : l.length = n) (hg : ∀ i s, I i s → g s = some l) (h0 : I 0 s)
    (step : ∀ (i : Nat) (hi : i < l.length) (s : Sd), I i s → opH (tg l[i] s) (kTg body (turnH Q (I (i + 1))))) (fin : ∀ s, I n s → Q .next s) : (forLoop g tg body n 0 s).H Q := by
  subst hn
  have key : ∀ (r i : Nat) (s : Sd), l.length = i + r → I i s → (forLoop g tg body r i s).H Q := by
    intro r
    induction r with
    | zero =>
      intro i s hl h
      unfold forLoop
      rw [hg i s h]
      simp only
      rw [if_pos (by omega)]
      rw [show i = l.length by omega] at h
      exact fin s h
    | succ r ih =>
      intro i s hl h
      unfold forLoop
      rw [hg i s h]
      simp only
      rw [if_pos hl, List.getElem?_eq_getElem (by omega)]
      simp only
      have st := step i (by omega) s h
      cases e : tg l[i] s with
      | none => rw [e] at st; exact st.elim
      | some s1 =>
        rw [e] at st
        simp only [opH_some, kTg_at] at st ⊢
        cases e2 : body s1 with
        | stuck => rw [e2] at st; exact st.elim
        | exc c w s2 => rw [e2] at st; exact st.elim
        | ok fl s2 =>
          rw [e2] at st
          cases fl with
          | next => exact ih (i + 1) s2 (by omega) st
          | cont => exact ih (i + 1) s2 (by omega) st
          | brk => exact st
          | ret d => exact st
  exact key l.length 0 s (by omega) h0
def rangeG : List D → Option ItS
  | [.int j] => if okR j then some (fixedI (intsD 0 j.toNat)) else none
  | [.int i, .int j] => if (okR i && okR j) = true then some (fixedI (intsD i (j - i).toNat)) else none
  | _ => none
@[simp] theorem rangeG_one {j : Int} : rangeG [.int j] = if okR j = true then some (fixedI (intsD 0 j.toNat)) else none := rfl
@[simp] theorem rangeG_two {i j : Int} : rangeG [.int i, .int j] = if (okR i && okR j) = true then some (fixedI (intsD i (j - i).toNat)) else none := rfl
def kRg2 (s : Sd) (Q : ItS → Sd → Prop) (l : List D) : Prop := opH (rangeG l) (kV s Q)
@[simp] theorem kRg2_at {s Q l} : kRg2 s Q l = opH (rangeG l) (kV s Q) := rfl
def kRg (Q : ItS → Sd → Prop) (os : List Opd) (s : Sd) : Prop := opH (getAll s os) (kRg2 s Q)
@[simp] theorem kRg_at {Q os s} : kRg Q os s = opH (getAll s os) (kRg2 s Q) := rfl
@[simp] theorem x_range {ms : M (List Opd)} {s : Sd} {Q} : (mRange ms s).H Q = (ms s).H (kRg Q) := by
  unfold mRange; rw [x_bind]; congr 1; funext os s1
  unfold kRg
  cases e : getAll s1 os with
  | none => rfl
  | some l =>
    simp only [opH_some]
    unfold kRg2 rangeG
    split <;> rename_i h
    · cases h; simp only; split <;> rfl
    · cases h; simp only; split <;> rfl
    · rename_i h2
      split
      · rename_i j; exact (h2 j rfl).elim
      · rename_i i j; exact (h i j rfl).elim
      · rfl
def iterG (o : Opd) (s : Sd) : Option ItS := match o.get s with
  | some (.tup l) => if pureL l then some (fixedI l) else none
  | some (.frl l) => if pureL l then some (fixedI l) else none
  | some (.lst l) => if pureL l then some (match o with | .own _ => fixedI l | .nm i => slotI i) else none
  | _ => none
theorem x_itOf {o : Opd} {s : Sd} {Q} : (itOf o s).H Q = opH (iterG o s) (kV s Q) := by
  unfold itOf iterG
  cases o.get s with
  | none => rfl
  | some d => cases d <;> first | rfl | (simp only; split <;> rfl)
@[simp] theorem iterG_otup {l : List D} {s : Sd} : iterG (.own (.tup l)) s = if pureL l = true then some (fixedI l) else none := rfl
@[simp] theorem iterG_olst {l : List D} {s : Sd} : iterG (.own (.lst l)) s = if pureL l = true then some (fixedI l) else none := rfl
theorem iterG_tup {i : Nat} {l : List D} {s : Sd} (h : s[i]? = some (some (.tup l))) (p : pureL l = true) : iterG (.nm i) s = some (fixedI l) := by
  unfold iterG; rw [get_nm, h]; simp [p]
theorem iterG_frl {i : Nat} {l : List D} {s : Sd} (h : s[i]? = some (some (.frl l))) (p : pureL l = true) : iterG (.nm i) s = some (fixedI l) := by
  unfold iterG; rw [get_nm, h]; simp [p]
theorem iterG_lst {i : Nat} {l : List D} {s : Sd} (h : s[i]? = some (some (.lst l))) (p : pureL l = true) : iterG (.nm i) s = some (slotI i) := by
  unfold iterG; rw [get_nm, h]; simp [p]
theorem slotI_at {i : Nat} {l : List D} {s : Sd} (h : s[i]? = some (some (.lst l))) (p : pureL l = true) : slotI i s = some l := by
  unfold slotI; rw [h]; simp [p]
def iterN (i : Nat) : D → Option ItS
  | .tup l => if pureL l = true then some (fixedI l) else none
  | .frl l => if pureL l = true then some (fixedI l) else none
  | .lst l => if pureL l = true then some (slotI i) else none
  | _ => none
@[simp] theorem iterN_tup {i l} : iterN i (.tup l) = if pureL l = true then some (fixedI l) else none := rfl
@[simp] theorem iterN_frl {i l} : iterN i (.frl l) = if pureL l = true then some (fixedI l) else none := rfl
@[simp] theorem iterN_lst {i l} : iterN i (.lst l) = if pureL l = true then some (slotI i) else none := rfl
@[simp] theorem iterG_nm {i : Nat} {s : Sd} : iterG (.nm i) s = (s[i]?).join.bind (iterN i) := by
  unfold iterG
  rw [get_nm]
  cases (s[i]?).join with
  | none => rfl
  | some d => cases d <;> rfl
def kIt (Q : ItS → Sd → Prop) (o : Opd) (s : Sd) : Prop := opH (iterG o s) (kV s Q)
@[simp] theorem kIt_at {Q o s} : kIt Q o s = opH (iterG o s) (kV s Q) := rfl
def kEn2 (Q : ItS → Sd → Prop) (g : ItS) (s : Sd) : Prop := Q (enumI g) s
@[simp] theorem kEn2_at {Q g s} : kEn2 Q g s = Q (enumI g) s := rfl
@[simp] theorem x_iter {m : M Opd} {s : Sd} {Q} : (mIter m s).H Q = (m s).H (kIt Q) := by
  unfold mIter; rw [x_bind]; congr 1; funext o s1; exact x_itOf
@[simp] theorem x_enum {m : M Opd} {s : Sd} {Q} : (mEnum m s).H Q = (m s).H (kIt (kEn2 Q)) := by
  unfold mEnum; rw [x_bind]; congr 1; funext o s1; rw [x_bind, x_itOf]; rfl
@[simp] theorem enumI_at {l : List D} {s : Sd} : enumI (fixedI l) s = some (enumD l) := rfl
@[simp] theorem enumD_length {l : List D} : (enumD l).length = l.length := enumD_len
theorem enumD_at {l : List D} {i : Nat} (h : i < l.length) : (enumD l)[i]'(by rw [enumD_len]; exact h) = .tup [.int (i : Nat), l[i]] := by
  have e := enumD_get (List.getElem?_eq_getElem h)
  rw [List.getElem?_eq_getElem (by rw [enumD_len]; exact h)] at e
  exact Option.some.inj e
@[simp] theorem intsD_length {lo : Int} {n : Nat} : (intsD lo n).length = n := intsD_len
@[simp] theorem intsD_at {lo : Int} {n i : Nat} (h : i < (intsD lo n).length) : (intsD lo n)[i] = .int (lo + (i : Nat)) := by
  have e := intsD_get (lo := lo) (n := n) (i := i) (by rw [intsD_len] at h; exact h)
  rw [List.getElem?_eq_getElem h] at e
  exact Option.some.inj e
@[simp] theorem intsD_pure {lo : Int} {n : Nat} : pureL (intsD lo n) = true := by
  unfold intsD
  generalize List.range n = r
  induction r with
  | nil => rfl
  | cons a r ih => simpa using ih
/-! comprehensions -/
def kLc3 (Q : Opd → Sd → Prop) (acc : List D) (s : Sd) : Prop := Q (.own (.lst acc)) s
@[simp] theorem kLc3_at {Q acc s} : kLc3 Q acc s = Q (.own (.lst acc)) s := rfl
def kLc2 (g : ItS) (tg : Tg) (tt : M Bool) (te : M Opd) (vs : List Nat) (s : Sd) (Q : Opd → Sd → Prop) (l : List D) : Prop := (lcLoop g tg tt te vs l.length 0 [] s).H (kLc3 Q)
@[simp] theorem kLc2_at {g tg tt te vs s Q l} : kLc2 g tg tt te vs s Q l = (lcLoop g tg tt te vs l.length 0 [] s).H (kLc3 Q) := rfl
def kLc (tg : Tg) (tt : M Bool) (te : M Opd) (vs : List Nat) (Q : Opd → Sd → Prop) (g : ItS) (s : Sd) : Prop := opH (g (wipeS s vs)) (kLc2 g tg tt te vs (wipeS s vs) Q)
@[simp] theorem kLc_at {tg tt te vs Q g s} : kLc tg tt te vs Q g s = opH (g (wipeS s vs)) (kLc2 g tg tt te vs (wipeS s vs) Q) := rfl
@[simp] theorem wipeS_nil {s : Sd} : wipeS s [] = s := rfl
@[simp] theorem wipeS_cons {s : Sd} {v vs} : wipeS s (v :: vs) = (wipeS s vs).set v none := rfl
@[simp] theorem x_lc {mi : M ItS} {tg : Tg} {tt : M Bool} {te : M Opd} {vs : List Nat} {s : Sd} {Q} : (mLc mi tg tt te vs s).H Q = (mi s).H (kLc tg tt te vs Q) := by
  unfold mLc; rw [x_bind]; congr 1; funext g s1
  unfold kLc
  cases e : g (wipeS s1 vs) with
  | none => rfl
  | some l => simp only [opH_some]; rw [x_bind]; rfl
def kOwn (A : D → Sd → Prop) (o : Opd) (s : Sd) : Prop := (toOwn o s).H A
@[simp] theorem kOwn_at {A o s} : kOwn A o s = (toOwn o s).H A := rfl
def kTe (te : M Opd) (A : D → Sd → Prop) (B : Sd → Prop) (b : Bool) (s : Sd) : Prop := if b = true then (te s).H (kOwn A) else B s
@[simp] theorem kTe_at {te A B b s} : kTe te A B b s = if b = true then (te s).H (kOwn A) else B s := rfl
def kTt (tt : M Bool) (te : M Opd) (A : D → Sd → Prop) (B : Sd → Prop) (s : Sd) : Prop := (tt s).H (kTe te A B)
@[simp] theorem kTt_at {tt te A B s} : kTt tt te A B s = (tt s).H (kTe te A B) := rfl
def lcA (I : Nat → List D → Sd → Prop) (i : Nat) (acc : List D) (vs : List Nat) (d : D) (s : Sd) : Prop := acc.length < sizeLine ∧ I i (acc ++ [d]) (wipeS s vs)
@[simp] theorem lcA_at {I i acc vs d s} : lcA I i acc vs d s = (acc.length < sizeLine ∧ I i (acc ++ [d]) (wipeS s vs)) := rfl
def lcB (I : Nat → List D → Sd → Prop) (i : Nat) (acc : List D) (vs : List Nat) (s : Sd) : Prop := I i acc (wipeS s vs)
@[simp] theorem lcB_at {I i acc vs s} : lcB I i acc vs s = I i acc (wipeS s vs) := rfl
def fmA (f : D → Option D) (d : D) (s0 : Sd) (vs : List Nat) (d' : D) (s : Sd) : Prop := f d = some d' ∧ wipeS s vs = s0
@[simp] theorem fmA_at {f d s0 vs d' s} : fmA f d s0 vs d' s = (f d = some d' ∧ wipeS s vs = s0) := rfl
def fmB (f : D → Option D) (d : D) (s0 : Sd) (vs : List Nat) (s : Sd) : Prop := f d = none ∧ wipeS s vs = s0
@[simp] theorem fmB_at {f d s0 vs s} : fmB f d s0 vs s = (f d = none ∧ wipeS s vs = s0) := rfl
theorem lc_run {g : ItS} {l : List D} {n : Nat} {tg : Tg} {tt : M Bool} {te : M Opd} {vs : List Nat} {s : Sd} {Q : List D → Sd → Prop} (I : Nat → List D → Sd → Prop) (hn : l.length = n) (hg : ∀ i acc s, I i acc s → g s = some l) (h0 : I 0 [] s)
    (step : ∀ (i : Nat) (hi : i < l.length) (acc : List D) (s : Sd), I i acc s → opH (tg l[i] s) (kTt tt te (lcA I (i + 1) acc vs) (lcB I (i + 1) acc vs)))
    (fin : ∀ acc s, I n acc s → Q acc s) : (lcLoop g tg tt te vs n 0 [] s).H Q := by
  subst hn
  have key : ∀ (r i : Nat) (acc : List D) (s : Sd), l.length = i + r → I i acc s → (lcLoop g tg tt te vs r i acc s).H Q := by
    intro r
    induction r with
    | zero =>
      intro i acc s hl h
      unfold lcLoop
      rw [hg i acc s h]
      simp only
      rw [if_pos (by omega)]
      rw [show i = l.length by omega] at h
      exact fin acc s h
    | succ r ih =>
      intro i acc s hl h
      unfold lcLoop
      rw [hg i acc s h]
      simp only
      rw [if_pos hl, List.getElem?_eq_getElem (by omega)]
      simp only
      have st := step i (by omega) acc s h
      cases e : tg l[i] s with
      | none => rw [e] at st; exact st.elim
      | some s1 =>
        rw [e] at st
        simp only [opH_some, kTt_at] at st ⊢
        cases e2 : tt s1 with
        | stuck => rw [e2] at st; exact st.elim
        | exc c w s2 => rw [e2] at st; exact st.elim
        | ok b s2 =>
          rw [e2] at st
          simp only [H_ok, kTe_at] at st
          cases b with
          | false =>
            rw [if_neg (by decide)] at st
            exact ih (i + 1) acc _ (by omega) st
          | true =>
            rw [if_pos rfl] at st
            simp only
            cases e3 : te s2 with
            | stuck => rw [e3] at st; exact st.elim
            | exc c w s3 => rw [e3] at st; exact st.elim
            | ok o s3 =>
              rw [e3] at st
              simp only [H_ok, kOwn_at] at st
              cases e4 : toOwn o s3 with
              | stuck => rw [e4] at st; exact st.elim
              | exc c w s4 => rw [e4] at st; exact st.elim
              | ok d s4 =>
                rw [e4] at st
                have hb : mBind te toOwn s2 = .ok d s4 := by unfold mBind; rw [e3]; exact e4
                rw [hb]
                simp only
                rw [if_pos st.1]
                exact ih (i + 1) (acc ++ [d]) _ (by omega) st.2
  exact key l.length 0 [] s (by omega) h0
/-- a comprehension that leaves the state as it is: what it makes of each item -/
theorem lc_fm {g : ItS} {l : List D} {n : Nat} {tg : Tg} {tt : M Bool} {te : M Opd} {vs : List Nat} {s : Sd} {Q : List D → Sd → Prop} (f : D → Option D) (hn : l.length = n) (hg : g s = some l) (hz : l.length ≤ sizeLine)
    (step : ∀ d ∈ l, opH (tg d s) (kTt tt te (fmA f d s vs) (fmB f d s vs)))
    (fin : Q (l.filterMap f) s) : (lcLoop g tg tt te vs n 0 [] s).H Q := by
  subst hn
  refine lc_run (fun i acc s' => s' = s ∧ acc = (l.take i).filterMap f) rfl (fun i acc s' h => by rw [h.1]; exact hg) ⟨rfl, by simp⟩ (fun i hi acc s' h => ?_) (fun acc s' h => ?_)
  · obtain ⟨rfl, ha⟩ := h
    have st := step l[i] (List.getElem_mem hi)
    have ht : l.take (i + 1) = l.take i ++ [l[i]] := by rw [List.take_succ, List.getElem?_eq_getElem hi]; rfl
    have hacc : acc.length < sizeLine := by
      rw [ha]
      refine Nat.lt_of_le_of_lt (List.length_filterMap_le _ _) ?_
      rw [List.length_take]
      omega
    cases e : tg l[i] s' with
    | none => rw [e] at st; exact st.elim
    | some s1 =>
      rw [e] at st
      simp only [opH_some, kTt_at] at st ⊢
      refine st.imp fun b s2 h => ?_
      rw [kTe_at] at h ⊢
      cases b with
      | false =>
        rw [if_neg (by decide)] at h ⊢
        exact ⟨h.2, by rw [ht, List.filterMap_append, ← ha]; simp [h.1]⟩
      | true =>
        rw [if_pos rfl] at h ⊢
        refine h.imp fun o s3 h => h.imp fun d s4 h => ⟨hacc, h.2, by rw [ht, List.filterMap_append, ← ha]; simp [h.1]⟩
  · obtain ⟨rfl, ha⟩ := h
    rw [List.take_length] at ha
    rw [ha]; exact fin
/-! while -/
theorem while_run {t : M Bool} {b : Sm} {Q : Fl → Sd → Prop} (I : Nat → Sd → Prop)
    (step : ∀ n s, I n s → (t s).H fun c s1 => if c = true then (b s1).H (turnH Q fun s2 => ∃ m, m < n ∧ I m s2) else Q .next s1) : ∀ (f n : Nat) (s : Sd), n < f → I n s → (whileM t b f s).H Q
  | 0, n, s, h, _ => by omega
  | f + 1, n, s, h, hi => by
    have st := step n s hi
    unfold whileM
    cases e : t s with
    | stuck => rw [e] at st; exact st.elim
    | exc c w s1 => rw [e] at st; exact st.elim
    | ok c s1 =>
      rw [e] at st
      simp only [H_ok] at st
      cases c with
      | false => rw [if_neg (by decide)] at st; exact st
      | true =>
        rw [if_pos rfl] at st
        simp only
        cases e2 : b s1 with
        | stuck => rw [e2] at st; exact st.elim
        | exc c w s2 => rw [e2] at st; exact st.elim
        | ok fl s2 =>
          rw [e2] at st
          cases fl with
          | next => obtain ⟨m, hm, hI⟩ := st; exact while_run I step f m s2 (by omega) hI
          | cont => obtain ⟨m, hm, hI⟩ := st; exact while_run I step f m s2 (by omega) hI
          | brk => exact st
          | ret d => exact st
/-! ints -/
theorem mulB_l {i j : Int} (h : -1000000000000 < i ∧ i < 1000000000000) : mulB i j = true := by
  unfold mulB; rw [Bool.or_eq_true]; exact .inl (decide_eq_true (by omega))
theorem mulB_r {i j : Int} (h : -1000000000000 < j ∧ j < 1000000000000) : mulB i j = true := by
  unfold mulB; rw [Bool.or_eq_true]; exact .inr (decide_eq_true (by omega))
theorem okR_of {i : Int} (h : -1000000000000 < i ∧ i < 1000000000000) : okR i = true := by
  unfold okR; exact decide_eq_true (by omega)
theorem atI_get {α : Type} {l : List α} {i : Int} {n : Nat} (h : i = (n : Int)) (hn : n < l.length) : atI l i = some l[n] := by
  subst h
  unfold atI ixN
  rw [if_pos (by omega), if_pos (by omega)]
  simp [List.getElem?_eq_getElem hn]
theorem atI_neg1 {α : Type} {l : List α} (hn : 0 < l.length) : atI l (-1) = some l[l.length - 1] := by
  unfold atI ixN
  rw [if_neg (by omega), if_pos (by omega)]
  have e : ((-1 : Int) + (l.length : Int)).toNat = l.length - 1 := by omega
  simp only [Option.bind_some, e]
  rw [List.getElem?_eq_getElem (by omega)]
theorem intsOf_len {ns : List Int} : (intsOf ns).length = ns.length := by unfold intsOf; simp
theorem intsOf_at {ns : List Int} {i : Nat} (h : i < (intsOf ns).length) : (intsOf ns)[i] = .int (ns[i]'(by rw [intsOf_len] at h; exact h)) := List.getElem_map ..
end TQ
set_option maxHeartbeats 4000000
namespace TQ
open PySem PySem.Spec PyProof.Rows L2
/-! ### how long a value is, shown -/
mutual
def D.rb : D → Nat
  | .non => 4
  | .bl _ => 5
  | .int _ => 1921
  | .str x => 10 * x.length + 2
  | .tup l => rbL l + 3
  | .lst l => rbL l + 3
  | .frl l => rbL l + 3
  | .opq _ => 4
def rbL : List D → Nat
  | [] => 0
  | d :: l => d.rb + 2 + rbL l
end
mutual
/-- ints that are shown, texts of right signs -/
def D.sh : D → Bool
  | .int i => decide (i.natAbs.log2 < 1920)
  | .str x => PyData.strOk x
  | .tup l => shL l
  | .lst l => shL l
  | .frl l => shL l
  | .opq _ => false
  | _ => true
def shL : List D → Bool
  | [] => true
  | d :: l => d.sh && shL l
end
mutual
theorem sh_okd : ∀ d : D, d.sh = true → d.okd = true
  | .non, _ => rfl
  | .bl _, _ => rfl
  | .int _, _ => rfl
  | .str x, h => h
  | .opq _, h => by cases h
  | .tup l, h => by rw [D.okd]; rw [D.sh] at h; exact shL_okd l h
  | .lst l, h => by rw [D.okd]; rw [D.sh] at h; exact shL_okd l h
  | .frl l, h => by rw [D.okd]; rw [D.sh] at h; exact shL_okd l h
theorem shL_okd : ∀ l : List D, shL l = true → okdL l = true
  | [], _ => rfl
  | d :: l, h => by
    rw [shL, Bool.and_eq_true] at h
    rw [okdL, Bool.and_eq_true]
    exact ⟨sh_okd d h.1, shL_okd l h.2⟩
end
mutual
theorem sh_showable : ∀ d : D, d.sh = true → d.py.showable = true
  | .non, _ => rfl
  | .bl _, _ => rfl
  | .int _, h => h
  | .str x, h => rfl
  | .opq _, h => by cases h
  | .tup l, h => by rw [D.sh] at h; rw [D.py, PyData.showable]; exact shL_showable l h
  | .lst l, h => by rw [D.sh] at h; rw [D.py, PyData.showable]; exact shL_showable l h
  | .frl l, h => by rw [D.sh] at h; rw [D.py, PyData.showable]; exact shL_showable l h
theorem shL_showable : ∀ l : List D, shL l = true → PyData.showableAll (pyL l) = true
  | [], _ => rfl
  | d :: l, h => by
    rw [shL, Bool.and_eq_true] at h
    rw [pyL, PyData.showableAll, Bool.and_eq_true]
    exact ⟨sh_showable d h.1, shL_showable l h.2⟩
end
theorem textFrom_le : ∀ (ts : List Str) (k : Nat) (acc : Str), (textFrom k acc ts).length ≤ acc.length + piled ts
  | [], k, acc => by show acc.length ≤ _; omega
  | t :: r, k, acc => by
    have h := textFrom_le r (k + 1) (acc ++ (if k > 0 then ", " else "" : String) ++ t)
    have e : (acc ++ (if k > 0 then ", " else "" : String) ++ t).length = acc.length + (if k > 0 then 2 else 0) + t.length := by
      rw [strLen_append, strLen_append]
      split <;> rfl
    rw [e] at h
    rw [piled_cons]
    show (textFrom (k + 1) _ r).length ≤ _
    have : (if k > 0 then 2 else 0 : Nat) ≤ 2 := by split <;> omega
    omega
theorem listText_le (ts : List Str) : (listText ts).length ≤ piled ts + 2 := by
  unfold listText
  rw [strLen_append]
  have := textFrom_le ts 0 "["
  have e1 : (("[" : String) : Str).length = 1 := rfl
  have e2 : (("]" : String) : Str).length = 1 := rfl
  omega
theorem tupleText_le (ts : List Str) : (tupleText ts).length ≤ piled ts + 3 := by
  unfold tupleText
  rw [strLen_append, strLen_append]
  have e1 : (("(" : String) : Str).length = 1 := rfl
  have e2 : ((if ts.length == 1 then ",)" else ")" : String) : Str).length ≤ 2 := by split <;> decide
  by_cases h : ts = []
  · subst h
    have : (Str.join ", " []).length = 0 := rfl
    omega
  · have := join_length_add ts h
    omega
theorem strOk_lt {x : Str} (h : PyData.strOk x = true) : ∀ c ∈ x.cps.toList, c < 16 ^ 8 := fun c hc => by
  unfold PyData.strOk at h
  rw [Array.all_eq_true_iff_forall_mem] at h
  have := of_decide_eq_true (h c (by simpa using hc))
  omega
mutual
theorem rb_le : ∀ d : D, d.sh = true → d.py.shown.length ≤ d.rb
  | .non, _ => by decide
  | .bl b, _ => by cases b <;> decide
  | .int i, h => by
    rw [D.sh] at h
    have := int_text_length_le (a := i) (k := 1920) (by omega) (of_decide_eq_true h)
    show (Str.ofString (toString i)).length ≤ 1921
    rw [PySem.ofString_length]
    omega
  | .str x, h => by
    rw [D.sh] at h
    exact StrLaws.reprText_len x (strOk_lt h)
  | .opq _, h => by cases h
  | .tup l, h => by
    rw [D.sh] at h
    rw [D.py, PyData.shown, D.rb]
    have := tupleText_le (PyData.shownAll (pyL l))
    have := rbL_le l h
    omega
  | .lst l, h => by
    rw [D.sh] at h
    rw [D.py, PyData.shown, D.rb]
    have := listText_le (PyData.shownAll (pyL l))
    have := rbL_le l h
    omega
  | .frl l, h => by
    rw [D.sh] at h
    rw [D.py, PyData.shown, D.rb]
    have := listText_le (PyData.shownAll (pyL l))
    have := rbL_le l h
    omega
theorem rbL_le : ∀ l : List D, shL l = true → piled (PyData.shownAll (pyL l)) ≤ rbL l
  | [], _ => by decide
  | d :: l, h => by
    rw [shL, Bool.and_eq_true] at h
    rw [pyL, PyData.shownAll, piled_cons, rbL]
    have := rb_le d h.1
    have := rbL_le l h.2
    omega
end
/-- repr(d) of what is shown well -/
theorem repr_of {d : D} (h1 : d.isSeq = true) (h2 : d.sh = true) (h3 : d.dep ≤ 64) (h4 : d.rb ≤ sizeLine) : fRepr [d] = some (.str d.py.shown) := by
  rw [fRepr_one, if_pos]
  simp only [Bool.and_eq_true, decide_eq_true_eq]
  exact ⟨⟨h1, sh_okd d h2, h3⟩, sh_showable d h2, Nat.le_trans (rb_le d h2) h4⟩
@[simp] theorem sh_non : D.non.sh = true := rfl
@[simp] theorem sh_bl {b} : (D.bl b).sh = true := rfl
@[simp] theorem sh_tup {l} : (D.tup l).sh = shL l := rfl
@[simp] theorem sh_lst {l} : (D.lst l).sh = shL l := rfl
@[simp] theorem shL_nil : shL [] = true := rfl
@[simp] theorem shL_cons {d l} : shL (d :: l) = (d.sh && shL l) := rfl
@[simp] theorem rb_non : D.non.rb = 4 := rfl
@[simp] theorem rb_bl {b} : (D.bl b).rb = 5 := rfl
@[simp] theorem rb_int {i} : (D.int i).rb = 1921 := rfl
@[simp] theorem rb_tup {l} : (D.tup l).rb = rbL l + 3 := rfl
@[simp] theorem rb_lst {l} : (D.lst l).rb = rbL l + 3 := rfl
@[simp] theorem rbL_nil : rbL [] = 0 := rfl
@[simp] theorem rbL_cons {d l} : rbL (d :: l) = d.rb + 2 + rbL l := rfl
@[simp] theorem dep_non : D.non.dep = 0 := rfl
@[simp] theorem dep_bl {b} : (D.bl b).dep = 0 := rfl
@[simp] theorem dep_int {i} : (D.int i).dep = 0 := rfl
@[simp] theorem dep_str {x} : (D.str x).dep = 0 := rfl
@[simp] theorem dep_tup {l} : (D.tup l).dep = depL l + 1 := rfl
@[simp] theorem dep_lst {l} : (D.lst l).dep = depL l + 1 := rfl
@[simp] theorem depL_nil : depL [] = 0 := rfl
@[simp] theorem depL_cons {d l} : depL (d :: l) = max d.dep (depL l) := rfl
@[simp] theorem seq_tup {l} : (D.tup l).isSeq = true := rfl
@[simp] theorem seq_lst {l} : (D.lst l).isSeq = true := rfl
theorem sh_int {i : Int} (h : -1000000000000000000 < i ∧ i < 1000000000000000000) : (D.int i).sh = true := by
  rw [D.sh]
  refine decide_eq_true ?_
  by_cases h0 : i.natAbs = 0
  · rw [h0]; decide
  · exact Nat.lt_of_lt_of_le ((Nat.log2_lt h0).mpr (show i.natAbs < 2 ^ 64 by omega)) (by decide)
end TQ
set_option maxHeartbeats 0
namespace K12
open PySem PySem.Spec PyProof.Rows L2 TQ
def g_f_law_pool : FM := fnM 5 1 [0] (sSeq (sAsg (gTup' 2 (gCons' (gNm 1) (gCons' (gNm 2) gNil'))) (mTup (mCons (mC (.int 0)) (mCons (mC (.int 7)) mNil)))) (sSeq (sFor (mRange (mCons (mApp (mCons (mNm 0) mNil) fLen) mNil)) (gNm 3) (sSeq (sSet 4 (mIf (mTest (mApp (m2 (mApp (m2 (mNm 0) (mNm 3)) fIx) (mC (.int 0))) fGe)) (mApp (mCons (mApp (m2 (mNm 0) (mNm 3)) fIx) mNil) fInt) (mApp (mCons (mApp (m2 (mApp (m1 (mC (.int 1))) fNeg) (mApp (m2 (mNm 0) (mNm 3)) fIx)) fSub) mNil) fInt))) (sSeq (sSet 2 (mApp (m2 (mApp (mCons (mApp (m2 (mApp (m2 (mApp (m2 (mNm 2) (mC (.int 48271))) fMul) (mApp (m2 (mNm 4) (mC (.int 2147483629))) fMod)) fAdd) (mC (.int 11))) fAdd) mNil) fInt) (mC (.int 2147483647))) fMod)) (sSet 1 (mIf (mAndT (mTest (mApp (m2 (mNm 4) (mApp (m2 (mC (.int 10)) (mC (.int 12))) fPow)) fGe)) (mTest (mApp (m2 (mNm 1) (mApp (m2 (mC (.int 10)) (mC (.int 60))) fPow)) fLt))) (mApp (mCons (mApp (m2 (mApp (m2 (mNm 1) (mApp (m2 (mC (.int 10)) (mC (.int 60))) fPow)) fMul) (mApp (m2 (mNm 4) (mApp (m2 (mC (.int 10)) (mC (.int 60))) fPow)) fMod)) fAdd) mNil) fInt) (mNm 1)))))) (sRet (mLst (mCons (mNm 1) (mCons (mNm 2) (mCons (mC (.int 0)) mNil)))))))
def g_f_law_qt_is_middle : FM := fnM 3 2 [0, 1] (sRet (mApp (m2 (mLc (mRange (mCons (mApp (mCons (mNm 1) mNil) fLen) mNil)) (gNm 2) (mAndT (mTest (mApp (m2 (mApp (m2 (mC (.int 2)) (mApp (m2 (mNm 1) (mNm 2)) fIx)) fMul) (mNm 0)) fGt)) (mTest (mApp (m2 (mApp (m2 (mC (.int 2)) (mApp (m2 (mNm 1) (mApp (m2 (mNm 2) (mC (.int 1))) fSub)) fIx)) fMul) (mNm 0)) fGt))) (mNm 2) [2]) (mLst mNil)) fNeA))
def g_f_law_qt_middle_row : FM := fnM 4 2 [0, 1] (sSeq (sSet 2 (mLc (mRange (mCons (mApp (mCons (mNm 1) mNil) fLen) mNil)) (gNm 3) (mTest (mCall g_f_law_qt_is_middle (mCons (mNm 0) (mCons (mApp (m2 (mNm 1) (mNm 3)) fIx) mNil)))) (mNm 3) [3])) (sRet (mIf (mTest (mApp (m2 (mNm 2) (mLst mNil)) fNeA)) (mApp (m2 (mNm 2) (mC (.int 0))) fIx) (mC .non))))
def g_f_law_qt_sides : FM := fnM 6 2 [0, 1] (sSeq (sSet 2 (mLst (mCons (mC (.int 0)) (mCons (mC (.int 0)) mNil)))) (sSeq (sFor (mRange (mCons (mApp (mCons (mNm 1) mNil) fLen) mNil)) (gNm 3) (sSeq (sPar 4 5 (mCons (mApp (m2 (mNm 1) (mApp (m2 (mNm 3) (mC (.int 1))) fSub)) fIx) (mCons (mApp (m2 (mNm 1) (mNm 3)) fIx) mNil))) (sSeq (sIf (mAndT (mTest (mApp (m2 (mApp (m2 (mC (.int 2)) (mNm 4)) fMul) (mNm 0)) fGt)) (mTest (mApp (m2 (mApp (m2 (mC (.int 2)) (mNm 5)) fMul) (mNm 0)) fLe))) (sStore 2 (mIf (mTest (mApp (m2 (mApp (m2 (mApp (m2 (mNm 4) (mNm 5)) fAdd) (mNm 0)) fSub) (mApp (m2 (mNm 2) (mC (.int 0))) fIx)) fGt)) (mApp (m2 (mApp (m2 (mNm 4) (mNm 5)) fAdd) (mNm 0)) fSub) (mApp (m2 (mNm 2) (mC (.int 0))) fIx)) (mC (.int 0))) sNext) (sIf (mAndT (mTest (mApp (m2 (mApp (m2 (mC (.int 2)) (mNm 5)) fMul) (mNm 0)) fGt)) (mTest (mApp (m2 (mApp (m2 (mC (.int 2)) (mNm 4)) fMul) (mNm 0)) fLe))) (sStore 2 (mIf (mTest (mApp (m2 (mApp (m2 (mApp (m2 (mNm 4) (mNm 5)) fAdd) (mNm 0)) fSub) (mApp (m2 (mNm 2) (mC (.int 1))) fIx)) fGt)) (mApp (m2 (mApp (m2 (mNm 4) (mNm 5)) fAdd) (mNm 0)) fSub) (mApp (m2 (mNm 2) (mC (.int 1))) fIx)) (mC (.int 1))) sNext)))) (sRet (mApp (mCons (mNm 2) mNil) fTuple))))
def g_is_number : FM := fnM 1 1 [0] (sRet (mAndV (mApp (mCons (mNm 0) (mCons (mC (.opq (.ty "int"))) mNil)) fIsi) (mB (mNotT (mTest (mApp (mCons (mNm 0) (mCons (mC (.opq (.ty "bool"))) mNil)) fIsi))))))
def g_is_between : FM := fnM 3 3 [0, 1, 2] (sRet (mAndV (mCall g_is_number (mCons (mNm 0) mNil)) (mChain (fun i j => decide (i ≤ j)) (fun i j => decide (i ≤ j)) (mNm 1) (mNm 0) (mNm 2))))
def g_made_k : FM := fnM 1 1 [0] (sSeq (sIf (mNotT (mTest (mCall g_is_between (mCons (mNm 0) (mCons (mC (.int 1)) (mCons (mC (.int 60)) mNil)))))) sStuck sNext) (sRet (mNm 0)))
def g_is_tuple_of : FM := fnM 3 3 [0, 1, 2] (sRet (mAndV (mApp (mCons (mNm 0) (mCons (mC (.opq (.ty "tuple"))) mNil)) fIsi) (mChain (fun i j => decide (i ≤ j)) (fun i j => decide (i ≤ j)) (mNm 1) (mApp (mCons (mNm 0) mNil) fLen) (mNm 2))))
def g_wrong_row : FM := fnM 2 1 [0] (sSeq (sIf (mNotT (mTest (mCall g_is_tuple_of (mCons (mNm 0) (mCons (mC (.int 0)) (mCons (mC (.int 24)) mNil)))))) (sRet (mApp (m1 (mC (.int 1))) fNeg)) sNext) (sSeq (sFor (mRange (mCons (mApp (mCons (mNm 0) mNil) fLen) mNil)) (gNm 1) (sIf (mNotT (mTest (mCall g_is_between (mCons (mApp (m2 (mNm 0) (mNm 1)) fIx) (mCons (mC (.int 1)) (mCons (mC (.int 99)) mNil)))))) (sRet (mNm 1)) sNext)) (sRet (mC .non))))
def g_is_row : FM := fnM 1 1 [0] (sRet (mApp (m2 (mCall g_wrong_row (mCons (mNm 0) mNil)) (mC .non)) (fIs false)))
def g_made_rows : FM := fnM 2 1 [0] (sSeq (sIf (mNotT (mTest (mCall g_is_tuple_of (mCons (mNm 0) (mCons (mC (.int 0)) (mCons (mC (.int 8)) mNil)))))) sStuck sNext) (sSeq (sFor (mRange (mCons (mApp (mCons (mNm 0) mNil) fLen) mNil)) (gNm 1) (sIf (mNotT (mTest (mCall g_is_row (mCons (mApp (m2 (mNm 0) (mNm 1)) fIx) mNil)))) sStuck sNext)) (sRet (mNm 0))))
def g_is_big : FM := fnM 2 2 [0, 1] (sRet (mApp (m2 (mApp (m2 (mC (.int 2)) (mNm 1)) fMul) (mNm 0)) fGt))
def g_gap_pairs : FM := fnM 2 1 [0] (sRet (mLc (mRange (mCons (mApp (mCons (mNm 0) mNil) fLen) mNil)) (gNm 1) (mRet true) (mTup (mCons (mApp (m2 (mNm 0) (mApp (m2 (mNm 1) (mC (.int 1))) fSub)) fIx) (mCons (mApp (m2 (mNm 0) (mNm 1)) fIx) mNil))) [1]))
def g_has_middle : FM := fnM 4 2 [0, 1] (sRet (mApp (mCons (mLc (mIter (mCall g_gap_pairs (mCons (mNm 1) mNil))) (gTup' 2 (gCons' (gNm 2) (gCons' (gNm 3) gNil'))) (mRet true) (mAndV (mCall g_is_big (mCons (mNm 0) (mCons (mNm 2) mNil))) (mCall g_is_big (mCons (mNm 0) (mCons (mNm 3) mNil)))) [2, 3]) mNil) fAny))
def g_middle_row : FM := fnM 4 2 [0, 1] (sSeq (sDrop (mCall g_made_k (mCons (mNm 0) mNil))) (sSeq (sDrop (mCall g_made_rows (mCons (mNm 1) mNil))) (sSeq (sFor (mEnum (mNm 1)) (gTup' 2 (gCons' (gNm 2) (gCons' (gNm 3) gNil'))) (sIf (mTest (mCall g_has_middle (mCons (mNm 0) (mCons (mNm 3) mNil)))) (sRet (mNm 2)) sNext)) (sRet (mC .non)))))
def g_f_law_middle : FM := fnM 2 2 [0, 1] (sRet (mHeard (mCall g_middle_row (mCons (mNm 0) (mCons (mNm 1) mNil)))))
def g_made_row : FM := fnM 2 1 [0] (sSeq (sSet 1 (mCall g_wrong_row (mCons (mNm 0) mNil))) (sSeq (sIf (mTest (mApp (m2 (mNm 1) (mC .non)) (fIs true))) sStuck sNext) (sRet (mNm 0))))
def g_sides : FM := fnM 6 2 [0, 1] (sSeq (sDrop (mCall g_made_k (mCons (mNm 0) mNil))) (sSeq (sDrop (mCall g_made_row (mCons (mNm 1) mNil))) (sSeq (sAsg (gTup' 2 (gCons' (gNm 2) (gCons' (gNm 3) gNil'))) (mTup (mCons (mC (.int 0)) (mCons (mC (.int 0)) mNil)))) (sSeq (sFor (mIter (mCall g_gap_pairs (mCons (mNm 1) mNil))) (gTup' 2 (gCons' (gNm 4) (gCons' (gNm 5) gNil'))) (sSeq (sIf (mAndT (mTest (mCall g_is_big (mCons (mNm 0) (mCons (mNm 4) mNil)))) (mNotT (mTest (mCall g_is_big (mCons (mNm 0) (mCons (mNm 5) mNil)))))) (sSet 2 (mApp (mCons (mNm 2) (mCons (mApp (m2 (mApp (m2 (mNm 4) (mNm 5)) fAdd) (mNm 0)) fSub) mNil)) fMax2)) sNext) (sIf (mAndT (mTest (mCall g_is_big (mCons (mNm 0) (mCons (mNm 5) mNil)))) (mNotT (mTest (mCall g_is_big (mCons (mNm 0) (mCons (mNm 4) mNil)))))) (sSet 3 (mApp (mCons (mNm 3) (mCons (mApp (m2 (mApp (m2 (mNm 4) (mNm 5)) fAdd) (mNm 0)) fSub) mNil)) fMax2)) sNext))) (sRet (mTup (mCons (mNm 2) (mCons (mNm 3) mNil))))))))
def g_f_law_sides : FM := fnM 2 2 [0, 1] (sRet (mHeard (mCall g_sides (mCons (mNm 0) (mCons (mNm 1) mNil)))))
def g_f_law_bounds_right : FM := fnM 5 0 [] (sSeq (sSet 0 (mLst (mCons (mTup (mCons (mC (.int 6)) (mCons (mTup (mCons (mC (.int 3)) (mCons (mC (.int 3)) mNil))) (mCons (mC .non) (mCons (mTup (mCons (mC (.int 0)) (mCons (mC (.int 0)) mNil))) mNil))))) (mCons (mTup (mCons (mC (.int 6)) (mCons (mTup (mCons (mC (.int 4)) (mCons (mC (.int 4)) mNil))) (mCons (mC (.int 0)) (mCons (mTup (mCons (mC (.int 0)) (mCons (mC (.int 0)) mNil))) mNil))))) (mCons (mTup (mCons (mC (.int 6)) (mCons (mTup (mCons (mC (.int 4)) (mCons (mC (.int 1)) (mCons (mC (.int 4)) mNil)))) (mCons (mC (.int 0)) (mCons (mTup (mCons (mC (.int 0)) (mCons (mC (.int 0)) mNil))) mNil))))) (mCons (mTup (mCons (mC (.int 6)) (mCons (mTup (mCons (mC (.int 6)) (mCons (mC (.int 2)) mNil))) (mCons (mC .non) (mCons (mTup (mCons (mC (.int 2)) (mCons (mC (.int 2)) mNil))) mNil))))) mNil)))))) (sSeq (sDrop (mMeth 0 (m1 (mLst (mCons (mTup (mCons (mC (.int 6)) (mCons (mTup (mCons (mC (.int 6)) (mCons (mC (.int 2)) (mCons (mC (.int 5)) (mCons (mC (.int 1)) mNil))))) (mCons (mC .non) (mCons (mTup (mCons (mC (.int 2)) (mCons (mC (.int 1)) mNil))) mNil))))) (mCons (mTup (mCons (mC (.int 6)) (mCons (mTup (mCons (mC (.int 4)) mNil)) (mCons (mC (.int 0)) (mCons (mTup (mCons (mC (.int 0)) (mCons (mC (.int 0)) mNil))) mNil))))) (mCons (mTup (mCons (mC (.int 6)) (mCons (mTup (mCons (mC (.int 3)) mNil)) (mCons (mC .non) (mCons (mTup (mCons (mC (.int 0)) (mCons (mC (.int 0)) mNil))) mNil))))) mNil))))) fExtend)) (sSeq (sDrop (mMeth 0 (m1 (mLst (mCons (mTup (mCons (mC (.int 7)) (mCons (mTup (mCons (mC (.int 4)) (mCons (mC (.int 4)) mNil))) (mCons (mC (.int 0)) (mCons (mTup (mCons (mC (.int 0)) (mCons (mC (.int 0)) mNil))) mNil))))) (mCons (mTup (mCons (mC (.int 7)) (mCons (mTup (mCons (mC (.int 3)) (mCons (mC (.int 4)) mNil))) (mCons (mC .non) (mCons (mTup (mCons (mC (.int 0)) (mCons (mC (.int 0)) mNil))) mNil))))) (mCons (mTup (mCons (mC (.int 1)) (mCons (mTup (mCons (mC (.int 1)) mNil)) (mCons (mC (.int 0)) (mCons (mTup (mCons (mC (.int 0)) (mCons (mC (.int 0)) mNil))) mNil))))) mNil))))) fExtend)) (sSeq (sDrop (mMeth 0 (m1 (mLst (mCons (mTup (mCons (mC (.int 60)) (mCons (mTup (mCons (mC (.int 99)) (mCons (mC (.int 30)) mNil))) (mCons (mC .non) (mCons (mTup (mCons (mC (.int 69)) (mCons (mC (.int 69)) mNil))) mNil))))) (mCons (mTup (mCons (mC (.int 2)) (mCons (mTup (mCons (mC (.int 1)) (mCons (mC (.int 2)) mNil))) (mCons (mC .non) (mCons (mTup (mCons (mC (.int 1)) (mCons (mC (.int 1)) mNil))) mNil))))) mNil)))) fExtend)) (sSeq (sFor (mIter (mNm 0)) (gTup' 4 (gCons' (gNm 1) (gCons' (gNm 2) (gCons' (gNm 3) (gCons' (gNm 4) gNil'))))) (sSeq (sIf (mTest (mApp (m2 (mTup (mCons (mCall g_f_law_qt_middle_row (mCons (mNm 1) (mCons (mTup (mCons (mNm 2) mNil)) mNil))) (mCons (mCall g_f_law_qt_sides (mCons (mNm 1) (mCons (mNm 2) mNil))) mNil))) (mTup (mCons (mNm 3) (mCons (mNm 4) mNil)))) fNeA)) (sRet (mC (.bl false))) sNext) (sIf (mTest (mApp (m2 (mApp (mCons (mLst (mCons (mCall g_f_law_middle (mCons (mNm 1) (mCons (mTup (mCons (mNm 2) mNil)) mNil))) (mCons (mCall g_f_law_sides (mCons (mNm 1) (mCons (mNm 2) mNil))) mNil))) mNil) fRepr) (mApp (mCons (mLst (mCons (mTup (mCons (mC (.str "told")) (mCons (mNm 3) mNil))) (mCons (mTup (mCons (mC (.str "told")) (mCons (mNm 4) mNil))) mNil))) mNil) fRepr)) fNeA)) (sRet (mC (.bl false))) sNext))) (sRet (mC (.bl true))))))))
def g_f_law_take : FM := fnM 3 2 [0, 1] (sSeq (sIf (mTest (mApp (m2 (mApp (m2 (mNm 0) (mC (.int 0))) fIx) (mC (.int 0))) fGt)) (sSeq (sSet 2 (mApp (m2 (mApp (mCons (mApp (m2 (mNm 0) (mC (.int 0))) fIx) mNil) fInt) (mNm 1)) fMod)) (sSeq (sStore 0 (mApp (m2 (mApp (m2 (mNm 0) (mC (.int 0))) fIx) (mNm 1)) fDiv) (mC (.int 0))) (sRet (mNm 2)))) sNext) (sSeq (sStore 0 (mApp (m2 (mApp (m2 (mNm 0) (mC (.int 2))) fIx) (mC (.int 1))) fAdd) (mC (.int 2))) (sSeq (sStore 0 (mApp (m2 (mApp (mCons (mApp (m2 (mApp (m2 (mApp (m2 (mApp (m2 (mNm 0) (mC (.int 1))) fIx) (mC (.int 39373))) fMul) (mApp (m2 (mC (.int 7919)) (mApp (m2 (mNm 0) (mC (.int 2))) fIx)) fMul)) fAdd) (mC (.int 7))) fAdd) mNil) fInt) (mC (.int 2147483647))) fMod) (mC (.int 1))) (sRet (mApp (m2 (mApp (mCons (mApp (m2 (mApp (m2 (mApp (mCons (mApp (m2 (mApp (m2 (mNm 0) (mC (.int 1))) fIx) (mApp (m2 (mNm 0) (mC (.int 1))) fIx)) fMul) mNil) fInt) (mC (.int 2147483629))) fMod) (mC (.int 32))) fDiv) mNil) fInt) (mNm 1)) fMod)))))
def g_f_law_one : FM := fnM 2 2 [0, 1] (sRet (mApp (m2 (mNm 1) (mCall g_f_law_take (mCons (mNm 0) (mCons (mApp (mCons (mNm 1) mNil) fLen) mNil)))) fIx))
def g_f_law_qg_k : FM := fnM 1 1 [0] (sRet (mCall g_f_law_one (mCons (mNm 0) (mCons (mLst (mCons (mC (.int 1)) (mCons (mC (.int 2)) (mCons (mC (.int 3)) (mCons (mC (.int 4)) (mCons (mC (.int 5)) (mCons (mC (.int 6)) (mCons (mC (.int 7)) (mCons (mC (.int 8)) (mCons (mC (.int 12)) (mCons (mApp (m2 (mC (.int 1)) (mCall g_f_law_take (mCons (mNm 0) (mCons (mC (.int 60)) mNil)))) fAdd) (mCons (mC (.int 60)) mNil)))))))))))) mNil))))
def g_f_law_rows_right : FM := fnM 5 3 [0, 1, 2] (sSeq (sSet 3 (mCall g_f_law_qt_middle_row (mCons (mNm 1) (mCons (mNm 2) mNil)))) (sSeq (sSet 4 (mLst (mCons (mCall g_f_law_middle (mCons (mNm 1) (mCons (mNm 2) mNil))) (mCons (mHeard (mCall g_middle_row (mPerm [1, 0] (mCons (mNm 2) (mCons (mNm 1) mNil))))) mNil)))) (sSeq (sIf (mTest (mApp (m2 (mApp (mCons (mNm 4) mNil) fRepr) (mApp (mCons (mApp (m2 (mLst (mCons (mTup (mCons (mC (.str "told")) (mCons (mNm 3) mNil))) mNil)) (mC (.int 2))) fMul) mNil) fRepr)) fNeA)) (sRet (mC (.bl false))) sNext) (sSeq (sIf (mAndT (mTest (mApp (m2 (mApp (mCons (mNm 2) mNil) fLen) (mC (.int 7))) fLt)) (mTest (mApp (m2 (mNm 1) (mC (.int 1))) fGt))) (sRet (mApp (m2 (mApp (mCons (mCall g_f_law_middle (mCons (mNm 1) (mCons (mApp (m2 (mTup (mCons (mTup mNil) (mCons (mTup (mCons (mC (.int 1)) mNil)) mNil))) (mNm 2)) fAdd) mNil))) mNil) fRepr) (mApp (mCons (mTup (mCons (mC (.str "told")) (mCons (mIf (mTest (mApp (m2 (mNm 3) (mC .non)) (fIs false))) (mC .non) (mApp (m2 (mNm 3) (mC (.int 2))) fAdd)) mNil))) mNil) fRepr)) fEqA)) sNext) (sRet (mC (.bl true)))))))
def g_f_law_row : FM := fnM 7 2 [0, 1] (sSeq (sSet 2 (mCall g_f_law_one (mCons (mNm 0) (mCons (mLst (mCons (mC (.int 0)) (mCons (mC (.int 1)) (mCons (mC (.int 1)) (mCons (mC (.int 2)) (mCons (mC (.int 3)) (mCons (mC (.int 4)) (mCons (mC (.int 6)) (mCons (mC (.int 12)) (mCons (mC (.int 24)) mNil)))))))))) mNil)))) (sSeq (sSet 3 (mApp (m2 (mNm 1) (mC (.int 2))) fDiv)) (sSeq (sSet 4 (mLst (mCons (mC (.int 1)) (mCons (mC (.int 2)) (mCons (mApp (m2 (mNm 3) (mC (.int 1))) fSub) (mCons (mNm 3) (mCons (mApp (m2 (mNm 3) (mC (.int 1))) fAdd) (mCons (mApp (m2 (mNm 3) (mC (.int 2))) fAdd) (mCons (mApp (m2 (mNm 1) (mC (.int 1))) fSub) (mCons (mNm 1) (mCons (mApp (m2 (mNm 1) (mC (.int 1))) fAdd) (mCons (mApp (m2 (mC (.int 1)) (mCall g_f_law_take (mCons (mNm 0) (mCons (mNm 1) mNil)))) fAdd) (mCons (mC (.int 99)) mNil))))))))))))) (sSeq (sSet 4 (mLc (mIter (mNm 4)) (gNm 5) (mTest (mChain (fun i j => decide (i ≤ j)) (fun i j => decide (i ≤ j)) (mC (.int 1)) (mNm 5) (mC (.int 99)))) (mNm 5) [5])) (sRet (mApp (mCons (mLc (mRange (mCons (mNm 2) mNil)) (gNm 6) (mRet true) (mCall g_f_law_one (mCons (mNm 0) (mCons (mNm 4) mNil))) [6]) mNil) fTuple))))))
def g_f_law_row_right : FM := fnM 6 3 [0, 1, 2] (sSeq (sSet 3 (mCall g_f_law_qt_sides (mCons (mNm 1) (mCons (mNm 2) mNil)))) (sSeq (sSet 4 (mIf (mTest (mApp (m2 (mNm 2) (mTup mNil)) fNeA)) (mCall g_f_law_take (mCons (mNm 0) (mCons (mApp (mCons (mNm 2) mNil) fLen) mNil))) (mC (.int 0)))) (sSeq (sSet 5 (mLst (mCons (mCall g_f_law_sides (mCons (mNm 1) (mCons (mNm 2) mNil))) (mCons (mCall g_f_law_sides (mCons (mNm 1) (mCons (mApp (m2 (mSlice (mNm 2) (mPart (mNm 4)) mNoPart fSl) (mSlice (mNm 2) mNoPart (mPart (mNm 4)) fSl)) fAdd) mNil))) (mCons (mCall g_f_law_sides (mCons (mNm 1) (mCons (mApp (m1 (mNm 2)) fRev) mNil))) mNil))))) (sSeq (sDrop (mMeth 5 (m1 (mHeard (mCall g_sides (mPerm [1, 0] (mCons (mNm 2) (mCons (mNm 1) mNil)))))) fAppend)) (sSeq (sIf (mTest (mApp (m2 (mApp (mCons (mNm 5) mNil) fRepr) (mApp (mCons (mLst (mCons (mTup (mCons (mC (.str "told")) (mCons (mNm 3) mNil))) (mCons (mTup (mCons (mC (.str "told")) (mCons (mNm 3) mNil))) (mCons (mTup (mCons (mC (.str "told")) (mCons (mApp (m1 (mNm 3)) fRev) mNil))) (mCons (mTup (mCons (mC (.str "told")) (mCons (mNm 3) mNil))) mNil))))) mNil) fRepr)) fNeA)) (sRet (mC (.bl false))) sNext) (sSeq (sIf (mAndT (mTest (mApp (m2 (mApp (mCons (mNm 2) mNil) fLen) (mC (.int 13))) fLt)) (mTest (mApp (m2 (mCall g_f_law_sides (mCons (mNm 1) (mCons (mApp (m2 (mNm 2) (mC (.int 2))) fMul) mNil))) (mTup (mCons (mC (.str "told")) (mCons (mNm 3) mNil)))) fNeA))) (sRet (mC (.bl false))) sNext) (sRet (mApp (m2 (mApp (mCons (mCall g_f_law_middle (mCons (mNm 1) (mCons (mTup (mCons (mNm 2) mNil)) mNil))) mNil) fRepr) (mApp (mCons (mTup (mCons (mC (.str "told")) (mCons (mIf (mTest (mCall g_f_law_qt_is_middle (mCons (mNm 1) (mCons (mNm 2) mNil)))) (mC (.int 0)) (mC .non)) mNil))) mNil) fRepr)) fEqA))))))))
def g_law : FM := fnM 8 1 [0] (sSeq (sSet 1 (mCall g_f_law_pool (mCons (mNm 0) mNil))) (sSeq (sFor (mRange (mCons (mC (.int 24)) mNil)) (gNm 2) (sSeq (sSet 3 (mCall g_f_law_qg_k (mCons (mNm 1) mNil))) (sSeq (sSet 4 (mApp (mCons (mLc (mRange (mCons (mCall g_f_law_one (mCons (mNm 1) (mCons (mLst (mCons (mC (.int 0)) (mCons (mC (.int 1)) (mCons (mC (.int 2)) (mCons (mC (.int 4)) (mCons (mC (.int 8)) mNil)))))) mNil))) mNil)) (gNm 6) (mRet true) (mCall g_f_law_row (mCons (mNm 1) (mCons (mNm 3) mNil))) [6]) mNil) fTuple)) (sSeq (sIf (mOrT (mNotT (mTest (mCall g_f_law_row_right (mCons (mNm 1) (mCons (mNm 3) (mCons (mCall g_f_law_row (mCons (mNm 1) (mCons (mNm 3) mNil))) mNil)))))) (mNotT (mTest (mCall g_f_law_rows_right (mCons (mNm 1) (mCons (mNm 3) (mCons (mNm 4) mNil))))))) (sRet (mC (.bl false))) sNext) (sSeq (sSet 5 (mSlice (mLc (mIter (mNm 4)) (gNm 7) (mNotT (mTest (mCall g_f_law_qt_is_middle (mCons (mNm 3) (mCons (mNm 7) mNil))))) (mNm 7) [7]) mNoPart (mPart (mC (.int 7))) fSl)) (sIf (mNotT (mTest (mCall g_f_law_rows_right (mCons (mNm 1) (mCons (mNm 3) (mCons (mApp (mCons (mApp (m2 (mNm 5) (mLst (mCons (mTup (mCons (mC (.int 99)) (mCons (mC (.int 99)) mNil))) mNil))) fAdd) mNil) fTuple) mNil)))))) (sRet (mC (.bl false))) sNext)))))) (sRet (mCall g_f_law_bounds_right mNil))))
end K12
set_option maxHeartbeats 1000000
namespace K12
open PySem PySem.Spec PyProof.Rows L2 TQ
theorem v_is_number (i : Int) : g_is_number [.int i] = .ok (.bl true) [.int i] := by
  refine fn_eq rfl ?_
  simp -implicitDefEqProofs [askable, isB]
theorem v_is_between (i a b : Int) : g_is_between [.int i, .int a, .int b] = .ok (.bl (decide (a ≤ i) && decide (i ≤ b))) [.int i, .int a, .int b] := by
  refine fn_eq rfl ?_
  simp -implicitDefEqProofs [x_call, v_is_number]
  split <;> simp_all
  intros; omega
theorem v_made_k (k : Int) (h : 1 ≤ k ∧ k ≤ 60) : g_made_k [.int k] = .ok (.int k) [.int k] := by
  refine fn_eq rfl ?_
  simp -implicitDefEqProofs [x_call, v_is_between, h]
theorem v_is_tuple_of (l : List D) (hp : pureL l = true) (a b : Int) : g_is_tuple_of [.tup l, .int a, .int b] = .ok (.bl (decide (a ≤ l.length) && decide ((l.length : Int) ≤ b))) [.tup l, .int a, .int b] := by
  refine fn_eq rfl ?_
  simp -implicitDefEqProofs [x_call, askable, isB, hp]
  split <;> simp_all
  intros; omega
def okRow (r : List Int) : Prop := r.length ≤ 24 ∧ ∀ x ∈ r, 1 ≤ x ∧ x ≤ 99
def rowD (r : List Int) : D := .tup (intsOf r)
@[simp] theorem rowD_pure {r : List Int} : (rowD r).pure = true := ints_pure r
theorem rows_pure : ∀ rs : List (List Int), pureL (rs.map rowD) = true
  | [] => rfl
  | r :: rs => by rw [List.map_cons, pureL_cons, rowD_pure, rows_pure rs]; rfl
theorem row_at {r : List Int} {i : Nat} (h : i < r.length) : atI (intsOf r) (i : Int) = some (.int r[i]) := by
  rw [atI_get (l := intsOf r) (i := (i : Int)) rfl (by rw [intsOf_len]; exact h), intsOf_at]
theorem okR_len {α : Type} {l : List α} {n : Nat} (h : l.length ≤ n) (hn : n ≤ 100000000) : okR (l.length : Int) = true := okR_of (by omega)
theorem v_wrong_row (r : List Int) (h : okRow r) : g_wrong_row [rowD r] = .ok .non [rowD r] := by
  refine fn_eq rfl ?_
  have hl : (r.length : Int) ≤ 24 := by have := h.1; omega
  have h1 : okR (r.length : Int) = true := okR_len h.1 (by omega)
  simp -implicitDefEqProofs [x_call, rowD, ints_pure, v_is_tuple_of, intsOf_len, hl, h1]
  refine for_run (fun i s => ∃ x, s = [some (.tup (intsOf r)), x]) (l := intsD 0 r.length) (by simp) (fun _ _ _ => rfl) ⟨_, rfl⟩ (fun i hi s hs => ?_) (fun s hs => ?_)
  · obtain ⟨x, rfl⟩ := hs
    rw [intsD_len] at hi
    have hx := h.2 r[i] (List.getElem_mem _)
    simp -implicitDefEqProofs [x_call, row_at hi, v_is_between, hx, ints_pure]
  · obtain ⟨x, rfl⟩ := hs
    simp -implicitDefEqProofs
theorem v_is_row (r : List Int) (h : okRow r) : g_is_row [rowD r] = .ok (.bl true) [rowD r] := by
  refine fn_eq rfl ?_
  simp -implicitDefEqProofs [x_call, v_wrong_row r h, D.noOpq, D.isNon]
theorem v_made_row (r : List Int) (h : okRow r) : g_made_row [rowD r] = .ok (rowD r) [rowD r] := by
  refine fn_eq rfl ?_
  simp -implicitDefEqProofs [x_call, v_wrong_row r h, D.noOpq, D.isNon]
theorem rows_at {rs : List (List Int)} {i : Nat} (h : i < rs.length) : atI (rs.map rowD) (i : Int) = some (rowD rs[i]) := by
  rw [atI_get (l := rs.map rowD) (i := (i : Int)) rfl (by rw [List.length_map]; exact h), List.getElem_map]
theorem v_made_rows (rs : List (List Int)) (hl8 : rs.length ≤ 8) (h : ∀ r ∈ rs, okRow r) : g_made_rows [.tup (rs.map rowD)] = .ok (.tup (rs.map rowD)) [.tup (rs.map rowD)] := by
  refine fn_eq rfl ?_
  have hl : (rs.length : Int) ≤ 8 := by omega
  have h1 : okR (rs.length : Int) = true := okR_len hl8 (by omega)
  simp -implicitDefEqProofs [x_call, rows_pure, v_is_tuple_of, hl, h1]
  refine for_run (fun i s => ∃ x, s = [some (.tup (rs.map rowD)), x]) (l := intsD 0 rs.length) (by simp) (fun _ _ _ => rfl) ⟨_, rfl⟩ (fun i hi s hs => ?_) (fun s hs => ?_)
  · obtain ⟨x, rfl⟩ := hs
    rw [intsD_len] at hi
    simp -implicitDefEqProofs [x_call, rows_at hi, v_is_row _ (h _ (List.getElem_mem hi)), rows_pure]
  · obtain ⟨x, rfl⟩ := hs
    simp -implicitDefEqProofs [rows_pure]
/-! pairs of neighbours -/
def prev (r : List Int) (i : Nat) : Int := r.getD (if i = 0 then r.length - 1 else i - 1) 0
def prs (r : List Int) : List (Int × Int) := (List.range r.length).map fun i => (prev r i, r.getD i 0)
def pairD (p : Int × Int) : D := .tup [.int p.1, .int p.2]
theorem prev_at {r : List Int} {i : Nat} (h : i < r.length) : atI (intsOf r) ((i : Int) - 1) = some (.int (prev r i)) := by
  unfold prev
  by_cases h0 : i = 0
  · subst h0
    rw [if_pos rfl, show ((0 : Nat) : Int) - 1 = -1 by omega, atI_neg1 (by rw [intsOf_len]; exact h), intsOf_at]
    congr 2
    simp [intsOf_len, List.getD_eq_getElem?_getD, List.getElem?_eq_getElem (show r.length - 1 < r.length by omega)]
  · rw [if_neg h0, show ((i : Nat) : Int) - 1 = ((i - 1 : Nat) : Int) by omega, row_at (by omega)]
    simp [List.getD_eq_getElem?_getD, List.getElem?_eq_getElem (show i - 1 < r.length by omega)]
theorem getD_at {r : List Int} {i : Nat} (h : i < r.length) : r.getD i 0 = r[i] := by
  simp [List.getD_eq_getElem?_getD, List.getElem?_eq_getElem h]
theorem pairs_pure : ∀ l : List (Int × Int), pureL (l.map pairD) = true
  | [] => rfl
  | p :: l => by rw [List.map_cons, pureL_cons, pairs_pure l]; rfl
theorem v_gap_pairs (r : List Int) (h : okRow r) : g_gap_pairs [rowD r] = .ok (.lst ((prs r).map pairD)) [rowD r] := by
  refine fn_eq rfl ?_
  have h1 : okR (r.length : Int) = true := okR_len h.1 (by omega)
  simp -implicitDefEqProofs [rowD, ints_pure, intsOf_len, h1, wipeS]
  refine lc_run (fun i acc s => s = [some (.tup (intsOf r)), none] ∧ acc = ((prs r).map pairD).take i) (l := intsD 0 r.length) (by simp) (fun _ _ _ _ => rfl) ⟨rfl, rfl⟩ (fun i hi acc s hs => ?_) (fun acc s hs => ?_)
  · obtain ⟨rfl, ha⟩ := hs
    rw [intsD_len] at hi
    have hlen : (prs r).length = r.length := by unfold prs; simp
    have hz : acc.length < sizeLine := by
      rw [ha, List.length_take, sizeLine_eq]
      have := h.1
      simp [hlen]; omega
    have e : ((prs r).map pairD).take (i + 1) = ((prs r).map pairD).take i ++ [.tup [.int (prev r i), .int r[i]]] := by
      rw [List.take_succ, List.getElem?_eq_getElem (by simp [hlen]; exact hi)]
      simp [prs, pairD, List.getElem?_eq_getElem hi]
    simp -implicitDefEqProofs [row_at hi, prev_at hi, ints_pure, hz, wipeS, e, ha]
    rw [ha] at hz
    simpa using hz
  · obtain ⟨rfl, ha⟩ := hs
    have hlen : (prs r).length = r.length := by unfold prs; simp
    simp -implicitDefEqProofs [ints_pure, ha, List.take_of_length_le, hlen]
theorem v_is_big (k g : Int) : g_is_big [.int k, .int g] = .ok (.bl (decide (k < 2 * g))) [.int k, .int g] := by
  refine fn_eq rfl ?_
  simp -implicitDefEqProofs [mulB_l (i := 2) (j := g) (by omega)]
end K12
set_option maxHeartbeats 1000000
namespace K12
open PySem PySem.Spec PyProof.Rows L2 TQ
def bigs (k : Int) (p : Int × Int) : Bool := decide (k < 2 * p.1) && decide (k < 2 * p.2)
def hasM (k : Int) (r : List Int) : Bool := (prs r).any (bigs k)
theorem prs_len {r : List Int} : (prs r).length = r.length := by unfold prs; simp
theorem bls_map {α : Type} (f : α → Bool) : ∀ l : List α, bls (l.map fun a => D.bl (f a)) = some (l.map f)
  | [] => rfl
  | a :: l => by
    show (match bls (l.map fun a => D.bl (f a)) with | some bs => some (f a :: bs) | none => none) = _
    rw [bls_map f l]; rfl
theorem fAny_map {α : Type} (f : α → Bool) (l : List α) : fAny [.lst (l.map fun a => D.bl (f a))] = some (.bl (l.any f)) := by
  unfold fAny
  simp only [bls_map]
  rw [List.any_map]
  rfl
theorem fm_some {α β : Type} (f : α → β) (l : List α) : (l.filterMap fun a => some (f a)) = l.map f := by simp
def unp (d : D) : Int × Int := match d with
  | .tup [.int a, .int b] => (a, b)
  | _ => (0, 0)
@[simp] theorem unp_pair {p : Int × Int} : unp (pairD p) = p := rfl
theorem v_has_middle (k : Int) (r : List Int) (h : okRow r) : g_has_middle [.int k, rowD r] = .ok (.bl (hasM k r)) [.int k, rowD r] := by
  refine fn_eq rfl ?_
  simp -implicitDefEqProofs [x_call, v_gap_pairs r h, pairs_pure, wipeS]
  refine lc_fm (l := (prs r).map pairD) (fun d => some (.bl (bigs k (unp d)))) (by simp) rfl (by rw [List.length_map, prs_len, sizeLine_eq]; have := h.1; omega) (fun d hd => ?_) ?_
  · obtain ⟨p, hp, rfl⟩ := List.mem_map.mp hd
    have e : pairD p = .tup [.int p.1, .int p.2] := rfl
    simp -implicitDefEqProofs [e, x_call, v_is_big, wipeS]
    have e2 : unp (D.tup [.int p.1, .int p.2]) = p := rfl
    simp -implicitDefEqProofs [e2, bigs]
    by_cases h1 : k < 2 * p.1 <;> simp -implicitDefEqProofs [h1, x_call, v_is_big, wipeS]
  · have e : (List.map pairD (prs r)).filterMap (fun d => some (D.bl (bigs k (unp d)))) = (prs r).map fun p => D.bl (bigs k p) := by
      rw [fm_some, List.map_map]; rfl
    rw [e]
    simp -implicitDefEqProofs [fAny_map, hasM]
/-- the first place where it holds -/
def firstI (l : List Bool) (i : Nat) : Option Nat := match l with
  | [] => none
  | b :: l => if b then some i else firstI l (i + 1)
def optD : Option Nat → D
  | none => .non
  | some i => .int i
theorem firstI_none {i : Nat} : ∀ {l : List Bool} {j : Nat}, (∀ b ∈ l, b = false) → firstI l j = none
  | [], _, _ => rfl
  | b :: l, j, h => by
    unfold firstI
    rw [h b List.mem_cons_self]
    exact firstI_none (i := i) fun b hb => h b (List.mem_cons_of_mem _ hb)
theorem firstI_at : ∀ {l : List Bool} {j i : Nat} (hi : i < l.length), l[i] = true → (∀ m (hm : m < i), l[m]'(by omega) = false) → firstI l j = some (j + i)
  | b :: l, j, 0, hi, h, _ => by
    have h : b = true := h
    unfold firstI; rw [h]; rfl
  | b :: l, j, i + 1, hi, h, hb => by
    have h0 : b = false := hb 0 (by omega)
    unfold firstI
    rw [h0]
    have := firstI_at (l := l) (j := j + 1) (i := i) (by simpa using hi) (by simpa using h) (fun m hm => by simpa using hb (m + 1) (by omega))
    rw [if_neg (by decide), this]
    congr 1; omega
def midRow (k : Int) (rs : List (List Int)) : Option Nat := firstI (rs.map (hasM k)) 0
theorem v_middle_row (k : Int) (rs : List (List Int)) (hk : 1 ≤ k ∧ k ≤ 60) (hl8 : rs.length ≤ 8) (h : ∀ r ∈ rs, okRow r) : g_middle_row [.int k, .tup (rs.map rowD)] = .ok (optD (midRow k rs)) [.int k, .tup (rs.map rowD)] := by
  refine fn_eq rfl ?_
  simp -implicitDefEqProofs [x_call, v_made_k k hk, v_made_rows rs hl8 h, rows_pure]
  refine for_run (fun i s => (∃ x y, s = [some (.int k), some (.tup (rs.map rowD)), x, y]) ∧ ∀ m (hm : m < rs.length), m < i → hasM k rs[m] = false) (l := enumD (rs.map rowD)) (by simp) (fun _ _ _ => rfl) ⟨⟨_, _, rfl⟩, fun m hm z => by omega⟩ (fun i hi s hs => ?_) (fun s hs => ?_)
  · obtain ⟨⟨x, y, rfl⟩, hb⟩ := hs
    have hi' : i < rs.length := by simpa using hi
    rw [enumD_at (by simpa using hi')]
    have ho := h _ (List.getElem_mem hi')
    simp -implicitDefEqProofs [x_call, v_has_middle k _ ho, rows_pure]
    by_cases hm : hasM k rs[i] = true
    · simp -implicitDefEqProofs [hm, rows_pure]
      have : midRow k rs = some i := by
        unfold midRow
        rw [firstI_at (i := i) (by simpa using hi') (by simpa using hm) (fun m hm2 => by simpa using hb m (by omega) hm2)]
        simp
      rw [this]; rfl
    · rw [Bool.not_eq_true] at hm
      simp -implicitDefEqProofs [hm]
      intro m hm2 hm3
      by_cases e : m = i
      · subst e; exact hm
      · exact hb m hm2 (by omega)
  · obtain ⟨⟨x, y, rfl⟩, hb⟩ := hs
    have : midRow k rs = none := by
      unfold midRow
      refine firstI_none (i := 0) fun b hb2 => ?_
      obtain ⟨r, hr, rfl⟩ := List.mem_map.mp hb2
      obtain ⟨m, hm, rfl⟩ := List.mem_iff_getElem.mp hr
      exact hb m hm (by simpa using hm)
    simp -implicitDefEqProofs [rows_pure, this, optD]
/-! sides -/
def stepU (k u : Int) (p : Int × Int) : Int := if k < 2 * p.1 ∧ ¬ k < 2 * p.2 then (if p.1 + p.2 - k > u then p.1 + p.2 - k else u) else u
def stepV (k u : Int) (p : Int × Int) : Int := if k < 2 * p.2 ∧ ¬ k < 2 * p.1 then (if p.1 + p.2 - k > u then p.1 + p.2 - k else u) else u
def sidU (k : Int) (l : List (Int × Int)) : Int := l.foldl (stepU k) 0
def sidV (k : Int) (l : List (Int × Int)) : Int := l.foldl (stepV k) 0
theorem fold_take {α β : Type} {f : β → α → β} {b : β} {l : List α} {i : Nat} (h : i < l.length) : (l.take (i + 1)).foldl f b = f ((l.take i).foldl f b) l[i] := by
  rw [List.take_succ, List.getElem?_eq_getElem h, List.foldl_append]; rfl
theorem v_sides (k : Int) (r : List Int) (hk : 1 ≤ k ∧ k ≤ 60) (h : okRow r) : g_sides [.int k, rowD r] = .ok (pairD (sidU k (prs r), sidV k (prs r))) [.int k, rowD r] := by
  refine fn_eq rfl ?_
  simp -implicitDefEqProofs [x_call, v_made_k k hk, v_made_row r h, v_gap_pairs r h, pairs_pure]
  refine for_run (fun i s => ∃ x y, s = [some (.int k), some (rowD r), some (.int (sidU k ((prs r).take i))), some (.int (sidV k ((prs r).take i))), x, y]) (l := (prs r).map pairD) (by simp) (fun _ _ _ => rfl) ⟨_, _, rfl⟩ (fun i hi s hs => ?_) (fun s hs => ?_)
  · obtain ⟨x, y, rfl⟩ := hs
    have hi' : i < (prs r).length := by simpa using hi
    have e : ((prs r).map pairD)[i] = .tup [.int (prs r)[i].1, .int (prs r)[i].2] := by simp [pairD]
    rw [e]
    have eU : sidU k ((prs r).take (i + 1)) = stepU k (sidU k ((prs r).take i)) (prs r)[i] := fold_take hi'
    have eV : sidV k ((prs r).take (i + 1)) = stepV k (sidV k ((prs r).take i)) (prs r)[i] := fold_take hi'
    generalize (prs r)[i] = p at eU eV
    rw [eU, eV]
    unfold stepU stepV
    generalize sidU k ((prs r).take i) = u
    generalize sidV k ((prs r).take i) = v
    obtain ⟨a, b⟩ := p
    by_cases h1 : k < 2 * a <;> by_cases h2 : k < 2 * b <;> simp -implicitDefEqProofs [h1, h2, x_call, v_is_big]
  · obtain ⟨x, y, rfl⟩ := hs
    simp -implicitDefEqProofs [pairD]
end K12
set_option maxHeartbeats 1000000
namespace K12
open PySem PySem.Spec PyProof.Rows L2 TQ
/-! lists of ints against the empty one -/
theorem okd_ints : ∀ ns : List Int, okdL (intsOf ns) = true
  | [] => rfl
  | n :: ns => by
    have := okd_ints ns
    unfold intsOf at this ⊢
    rw [List.map_cons, okdL, this]; rfl
theorem dep_ints : ∀ ns : List Int, depL (intsOf ns) = 0
  | [] => rfl
  | n :: ns => by
    have := dep_ints ns
    unfold intsOf at this ⊢
    rw [List.map_cons, depL, this]; rfl
theorem eqOk_lst (ns : List Int) : eqOk (.lst (intsOf ns)) = true := by
  unfold eqOk
  rw [D.okd, okd_ints, D.dep, dep_ints]; rfl
theorem eqOk_tup (ns : List Int) : eqOk (.tup (intsOf ns)) = true := by
  unfold eqOk
  rw [D.okd, okd_ints, D.dep, dep_ints]; rfl
theorem ne_nil (ns : List Int) : fNeA [.lst (intsOf ns), .lst []] = some (.bl (!ns.isEmpty)) := by
  unfold fNeA
  simp only
  unfold fNe
  simp only
  rw [eqOk_lst, show eqOk (.lst []) = true from rfl]
  cases ns <;> rfl
theorem ne_nilT (ns : List Int) : fNeA [.tup (intsOf ns), .tup []] = some (.bl (!ns.isEmpty)) := by
  unfold fNeA
  simp only
  unfold fNe
  simp only
  rw [eqOk_tup, show eqOk (.tup []) = true from rfl]
  cases ns <;> rfl
theorem range_fm {α : Type} (n : Nat) (f : Nat → Option α) (g : D → Option α) (h : ∀ i, i < n → g (.int (i : Nat)) = f i) : (intsD 0 n).filterMap g = (List.range n).filterMap f := by
  unfold intsD
  rw [List.filterMap_map]
  refine fm_congr fun i hi => ?_
  have := List.mem_range.mp hi
  show g (.int (0 + (i : Nat))) = f i
  rw [Int.zero_add]; exact h i this
theorem mem_intsD {d : D} {n : Nat} (h : d ∈ intsD 0 n) : ∃ i, i < n ∧ d = .int (i : Nat) := by
  unfold intsD at h
  obtain ⟨i, hi, rfl⟩ := List.mem_map.mp h
  exact ⟨i, List.mem_range.mp hi, by rw [Int.zero_add]⟩
theorem fm_int {n : Nat} (p : Nat → Bool) : ((List.range n).filterMap fun i => if p i then some (D.int (i : Nat)) else none) = intsOf (((List.range n).filter p).map fun (i : Nat) => (i : Int)) := by
  unfold intsOf
  generalize List.range n = l
  induction l with
  | nil => rfl
  | cons a l ih => by_cases h : p a = true <;> simp [h, ih]
theorem filter_isEmpty {α : Type} (l : List α) (p : α → Bool) : (!(l.filter p).isEmpty) = l.any p := by
  induction l with
  | nil => rfl
  | cons a l ih => by_cases h : p a = true <;> simp [h, ih]
def midAt (k : Int) (r : List Int) (i : Nat) : Bool := bigs k (prev r i, r.getD i 0)
theorem hasM_range (k : Int) (r : List Int) : hasM k r = (List.range r.length).any (midAt k r) := by
  unfold hasM prs
  rw [List.any_map]; rfl
theorem v_qt_is_middle (k : Int) (r : List Int) (h : okRow r) : g_f_law_qt_is_middle [.int k, rowD r] = .ok (.bl (hasM k r)) [.int k, rowD r] := by
  refine fn_eq rfl ?_
  have h1 : okR (r.length : Int) = true := okR_len h.1 (by omega)
  simp -implicitDefEqProofs [rowD, ints_pure, intsOf_len, h1]
  refine lc_fm (l := intsD 0 r.length) (fun d => match d with | .int i => if midAt k r i.toNat then some (.int i) else none | _ => none) (by simp) rfl (by rw [intsD_len, sizeLine_eq]; have := h.1; omega) (fun d hd => ?_) ?_
  · obtain ⟨i, hi, rfl⟩ := mem_intsD hd
    have hm : midAt k r i = (decide (k < 2 * prev r i) && decide (k < 2 * r[i])) := by unfold midAt bigs; rw [getD_at hi]
    have b1 : mulB 2 r[i] = true := mulB_l (by omega)
    have b2 : mulB 2 (prev r i) = true := mulB_l (by omega)
    by_cases e1 : k < 2 * prev r i <;> by_cases e2 : k < 2 * r[i] <;> simp -implicitDefEqProofs [row_at hi, prev_at hi, ints_pure, b1, b2, e1, e2, hm]
  · rw [range_fm r.length (fun i => if midAt k r i then some (D.int (i : Nat)) else none) _ (fun i hi => by simp), fm_int]
    simp -implicitDefEqProofs [ne_nil, ints_pure]
    rw [hasM_range, ← filter_isEmpty]
    generalize (List.range r.length).filter (midAt k r) = l
    cases l <;> rfl
theorem first_head : ∀ (bs : List Bool) (j : Nat), (((List.range bs.length).filter fun i => bs.getD i false).map fun (i : Nat) => ((i + j : Nat) : Int)).head? = (firstI bs j).map fun (i : Nat) => (i : Int)
  | [], _ => rfl
  | b :: bs, j => by
    rw [List.length_cons, List.range_succ_eq_map]
    cases b with
    | true => simp [firstI]
    | false =>
      have ih := first_head bs (j + 1)
      rw [List.filter_cons_of_neg (by simp), List.filter_map, List.map_map]
      unfold firstI
      rw [if_neg (by decide), ← ih]
      congr 1
      have e1 : ((fun i => (false :: bs).getD i false) ∘ Nat.succ) = fun i => bs.getD i false := by funext i; simp
      rw [e1]
      congr 1
      funext i
      show ((Nat.succ i + j : Nat) : Int) = ((i + (j + 1) : Nat) : Int)
      congr 1; omega
theorem v_qt_middle_row (k : Int) (rs : List (List Int)) (hl8 : rs.length ≤ 8) (h : ∀ r ∈ rs, okRow r) : g_f_law_qt_middle_row [.int k, .tup (rs.map rowD)] = .ok (optD (midRow k rs)) [.int k, .tup (rs.map rowD)] := by
  refine fn_eq rfl ?_
  have h1 : okR (rs.length : Int) = true := okR_len hl8 (by omega)
  simp -implicitDefEqProofs [rows_pure, h1]
  refine lc_fm (l := intsD 0 rs.length) (fun d => match d with | .int i => if hasM k (rs.getD i.toNat []) then some (.int i) else none | _ => none) (by simp) rfl (by rw [intsD_len, sizeLine_eq]; omega) (fun d hd => ?_) ?_
  · obtain ⟨i, hi, rfl⟩ := mem_intsD hd
    have e : rs.getD i [] = rs[i] := by simp [List.getD_eq_getElem?_getD, List.getElem?_eq_getElem hi]
    have hm := v_qt_is_middle k _ (h _ (List.getElem_mem hi))
    by_cases e1 : hasM k rs[i] = true
    · simp -implicitDefEqProofs [rows_at hi, rows_pure, hm, e1, List.getElem?_eq_getElem hi]
    · rw [Bool.not_eq_true] at e1
      simp -implicitDefEqProofs [rows_at hi, rows_pure, hm, e1, List.getElem?_eq_getElem hi]
  · rw [range_fm rs.length (fun i => if hasM k (rs.getD i []) then some (D.int (i : Nat)) else none) _ (fun i hi => by simp), fm_int]
    have key : ∀ (l : List (List Int)), (((List.range l.length).filter fun i => hasM k (l.getD i [])).map fun (i : Nat) => (i : Int)).head? = (midRow k l).map fun (i : Nat) => (i : Int) := by
      intro l
      have := first_head (l.map (hasM k)) 0
      rw [List.length_map] at this
      have e : ((List.range l.length).filter fun i => hasM k (l.getD i [])) = (List.range l.length).filter fun i => (l.map (hasM k)).getD i false := by
        refine List.filter_congr fun i hi => ?_
        have hi := List.mem_range.mp hi
        simp [List.getElem?_eq_getElem hi]
      rw [e]
      exact this
    have kr := key rs
    generalize ((List.range rs.length).filter fun i => hasM k (rs.getD i [])).map (fun (i : Nat) => (i : Int)) = ns at kr
    cases ns with
    | nil =>
      have e : midRow k rs = none := by cases e : midRow k rs <;> simp [e] at kr; rfl
      simp -implicitDefEqProofs [ne_nil, ints_pure, rows_pure, e, optD]
    | cons n ns =>
      have e : ∃ i, midRow k rs = some i ∧ n = (i : Int) := by cases e : midRow k rs <;> simp [e] at kr; exact ⟨_, rfl, kr⟩
      obtain ⟨i, e, rfl⟩ := e
      have ha : atI (intsOf ((i : Int) :: ns)) 0 = some (.int i) := row_at (r := (i : Int) :: ns) (i := 0) (by simp)
      simp -implicitDefEqProofs [ne_nil, ints_pure, rows_pure, e, optD, ha]
end K12
set_option maxHeartbeats 1000000
namespace K12
open PySem PySem.Spec PyProof.Rows L2 TQ
@[simp] theorem ixN_20 : ixN 2 0 = some 0 := rfl
@[simp] theorem ixN_21 : ixN 2 1 = some 1 := rfl
@[simp] theorem ixN_30 : ixN 3 0 = some 0 := rfl
@[simp] theorem ixN_31 : ixN 3 1 = some 1 := rfl
@[simp] theorem ixN_32 : ixN 3 2 = some 2 := rfl
@[simp] theorem atI_20 {α : Type} {a b : α} : atI [a, b] 0 = some a := rfl
@[simp] theorem atI_21 {α : Type} {a b : α} : atI [a, b] 1 = some b := rfl
@[simp] theorem atI_30 {α : Type} {a b c : α} : atI [a, b, c] 0 = some a := rfl
@[simp] theorem atI_31 {α : Type} {a b c : α} : atI [a, b, c] 1 = some b := rfl
@[simp] theorem atI_32 {α : Type} {a b c : α} : atI [a, b, c] 2 = some c := rfl
theorem v_qt_sides (k : Int) (r : List Int) (h : okRow r) : g_f_law_qt_sides [.int k, rowD r] = .ok (pairD (sidU k (prs r), sidV k (prs r))) [.int k, rowD r] := by
  refine fn_eq rfl ?_
  have h1 : okR (r.length : Int) = true := okR_len h.1 (by omega)
  simp -implicitDefEqProofs [rowD, ints_pure, intsOf_len, h1]
  refine for_run (fun i s => ∃ x y z, s = [some (.int k), some (.tup (intsOf r)), some (.lst [.int (sidU k ((prs r).take i)), .int (sidV k ((prs r).take i))]), x, y, z]) (l := intsD 0 r.length) (by simp) (fun _ _ _ => rfl) ⟨_, _, _, rfl⟩ (fun i hi s hs => ?_) (fun s hs => ?_)
  · obtain ⟨x, y, z, rfl⟩ := hs
    rw [intsD_len] at hi
    have hi' : i < (prs r).length := by rw [prs_len]; exact hi
    have e : (prs r)[i] = (prev r i, r[i]) := by simp [prs, List.getElem?_eq_getElem hi]
    have eU : sidU k ((prs r).take (i + 1)) = stepU k (sidU k ((prs r).take i)) (prs r)[i] := fold_take hi'
    have eV : sidV k ((prs r).take (i + 1)) = stepV k (sidV k ((prs r).take i)) (prs r)[i] := fold_take hi'
    rw [e] at eU eV
    rw [eU, eV]
    unfold stepU stepV
    generalize sidU k ((prs r).take i) = u
    generalize sidV k ((prs r).take i) = v
    have ra := row_at hi
    have pa := prev_at hi
    generalize r[i] = b at ra
    generalize prev r i = a at pa
    have b1 : mulB 2 a = true := mulB_l (by omega)
    have b2 : mulB 2 b = true := mulB_l (by omega)
    by_cases h1 : k < 2 * a <;> by_cases h2 : k < 2 * b <;> simp -implicitDefEqProofs [h1, h2, ra, pa, b1, b2, ints_pure, Int.not_lt.mp, Int.not_le.mpr, Int.not_lt]
    all_goals (try (split <;> intros <;> omega))
  · obtain ⟨x, y, z, rfl⟩ := hs
    have e : (prs r).take r.length = prs r := by rw [← prs_len]; exact List.take_length
    simp -implicitDefEqProofs [e, pairD, ints_pure]
/-! the sums do not care where the row begins, nor how often it is said -/
def sidG (c : Int × Int → Prop) [DecidablePred c] (v : Int × Int → Int) (l : List (Int × Int)) : Int := l.foldl (fun u p => if c p then (if v p > u then v p else u) else u) 0
theorem sidG_is (c : Int × Int → Prop) [DecidablePred c] (v : Int × Int → Int) : ∀ (l : List (Int × Int)) (u0 : Int), u0 ≤ l.foldl (fun u p => if c p then (if v p > u then v p else u) else u) u0 ∧ (∀ p ∈ l, c p → v p ≤ l.foldl (fun u p => if c p then (if v p > u then v p else u) else u) u0) ∧
    (l.foldl (fun u p => if c p then (if v p > u then v p else u) else u) u0 = u0 ∨ ∃ p ∈ l, c p ∧ v p = l.foldl (fun u p => if c p then (if v p > u then v p else u) else u) u0)
  | [], u0 => ⟨Int.le_refl _, (fun _ h => by cases h), .inl rfl⟩
  | q :: l, u0 => by
    rw [List.foldl_cons]
    obtain ⟨h1, h2, h3⟩ := sidG_is c v l (if c q then (if v q > u0 then v q else u0) else u0)
    generalize l.foldl _ _ = w at h1 h2 h3
    by_cases hc : c q
    · rw [if_pos hc] at h1 h3
      by_cases hv : v q > u0
      · rw [if_pos hv] at h1 h3
        refine ⟨by omega, fun p hp cp => ?_, .inr ?_⟩
        · rcases List.mem_cons.mp hp with rfl | hp
          · exact h1
          · exact h2 p hp cp
        · rcases h3 with h3 | ⟨p, hp, cp, e⟩
          · exact ⟨q, List.mem_cons_self, hc, h3.symm⟩
          · exact ⟨p, List.mem_cons_of_mem _ hp, cp, e⟩
      · rw [if_neg hv] at h1 h3
        refine ⟨h1, fun p hp cp => ?_, ?_⟩
        · rcases List.mem_cons.mp hp with rfl | hp
          · omega
          · exact h2 p hp cp
        · rcases h3 with h3 | ⟨p, hp, cp, e⟩
          · exact .inl h3
          · exact .inr ⟨p, List.mem_cons_of_mem _ hp, cp, e⟩
    · rw [if_neg hc] at h1 h3
      refine ⟨h1, fun p hp cp => ?_, ?_⟩
      · rcases List.mem_cons.mp hp with rfl | hp
        · exact absurd cp hc
        · exact h2 p hp cp
      · rcases h3 with h3 | ⟨p, hp, cp, e⟩
        · exact .inl h3
        · exact .inr ⟨p, List.mem_cons_of_mem _ hp, cp, e⟩
theorem sidG_le (c c' : Int × Int → Prop) [DecidablePred c] [DecidablePred c'] (v v' : Int × Int → Int) (f : Int × Int → Int × Int) {l l' : List (Int × Int)} (h : ∀ p ∈ l, c p → f p ∈ l' ∧ c' (f p) ∧ v' (f p) = v p) : sidG c v l ≤ sidG c' v' l' := by
  obtain ⟨h1, h2, h3⟩ := sidG_is c v l 0
  obtain ⟨k1, k2, k3⟩ := sidG_is c' v' l' 0
  change (sidG c v l = 0 ∨ ∃ p ∈ l, c p ∧ v p = sidG c v l) at h3
  change 0 ≤ sidG c' v' l' at k1
  change ∀ p ∈ l', c' p → v' p ≤ sidG c' v' l' at k2
  rcases h3 with h3 | ⟨p, hp, cp, e⟩
  · rw [h3]; exact k1
  · obtain ⟨m, c2, e2⟩ := h p hp cp
    have := k2 _ m c2
    omega
def cU (k : Int) (p : Int × Int) : Prop := k < 2 * p.1 ∧ ¬ k < 2 * p.2
def cV (k : Int) (p : Int × Int) : Prop := k < 2 * p.2 ∧ ¬ k < 2 * p.1
instance (k) : DecidablePred (cU k) := fun _ => inferInstanceAs (Decidable (_ ∧ _))
instance (k) : DecidablePred (cV k) := fun _ => inferInstanceAs (Decidable (_ ∧ _))
def vS (k : Int) (p : Int × Int) : Int := p.1 + p.2 - k
theorem sidU_G (k : Int) (l : List (Int × Int)) : sidU k l = sidG (cU k) (vS k) l := rfl
theorem sidV_G (k : Int) (l : List (Int × Int)) : sidV k l = sidG (cV k) (vS k) l := rfl
theorem sid_same (k : Int) {l l' : List (Int × Int)} (h : ∀ p, p ∈ l ↔ p ∈ l') : sidU k l = sidU k l' ∧ sidV k l = sidV k l' := by
  rw [sidU_G, sidU_G, sidV_G, sidV_G]
  exact ⟨Int.le_antisymm (sidG_le _ _ _ _ id fun p hp c => ⟨(h p).mp hp, c, rfl⟩) (sidG_le _ _ _ _ id fun p hp c => ⟨(h p).mpr hp, c, rfl⟩),
    Int.le_antisymm (sidG_le _ _ _ _ id fun p hp c => ⟨(h p).mp hp, c, rfl⟩) (sidG_le _ _ _ _ id fun p hp c => ⟨(h p).mpr hp, c, rfl⟩)⟩
def sw (p : Int × Int) : Int × Int := (p.2, p.1)
theorem sid_swap (k : Int) {l l' : List (Int × Int)} (h : ∀ p, p ∈ l → sw p ∈ l') (h' : ∀ p, p ∈ l' → sw p ∈ l) : sidU k l = sidV k l' ∧ sidV k l = sidU k l' := by
  rw [sidU_G, sidU_G, sidV_G, sidV_G]
  have e : ∀ p, vS k (sw p) = vS k p := fun p => by unfold vS sw; simp only; omega
  exact ⟨Int.le_antisymm (sidG_le _ _ _ _ sw fun p hp c => ⟨h p hp, c, e p⟩) (sidG_le _ _ _ _ sw fun p hp c => ⟨h' p hp, c, e p⟩),
    Int.le_antisymm (sidG_le _ _ _ _ sw fun p hp c => ⟨h p hp, c, e p⟩) (sidG_le _ _ _ _ sw fun p hp c => ⟨h' p hp, c, e p⟩)⟩
/-- the row as an endless one -/
def cyc (r : List Int) (i : Nat) : Int := r.getD (i % r.length) 0
theorem cyc_add {r : List Int} (i : Nat) : cyc r (i + r.length) = cyc r i := by unfold cyc; rw [Nat.add_mod_right]
theorem cyc_lt {r : List Int} {i : Nat} (h : i < r.length) : cyc r i = r[i] := by unfold cyc; rw [Nat.mod_eq_of_lt h, getD_at h]
theorem mem_prs {r : List Int} {p : Int × Int} : p ∈ prs r ↔ 0 < r.length ∧ ∃ i, p = (cyc r i, cyc r (i + 1)) := by
  have pv : ∀ i, i < r.length → (prev r i, r.getD i 0) = (cyc r (i + (r.length - 1)), cyc r (i + (r.length - 1) + 1)) := fun i hi => by
    have e2 : cyc r (i + (r.length - 1) + 1) = r.getD i 0 := by
      rw [show i + (r.length - 1) + 1 = i + r.length by omega, cyc_add]
      unfold cyc; rw [Nat.mod_eq_of_lt hi]
    rw [e2]
    congr 1
    unfold prev
    by_cases h0 : i = 0
    · subst h0
      rw [if_pos rfl, Nat.zero_add]
      unfold cyc; rw [Nat.mod_eq_of_lt (by omega)]
    · rw [if_neg h0, show i + (r.length - 1) = (i - 1) + r.length by omega, cyc_add]
      unfold cyc; rw [Nat.mod_eq_of_lt (by omega)]
  constructor
  · intro h
    unfold prs at h
    obtain ⟨i, hi, rfl⟩ := List.mem_map.mp h
    have hi := List.mem_range.mp hi
    exact ⟨by omega, i + (r.length - 1), pv i hi⟩
  · rintro ⟨h0, i, rfl⟩
    unfold prs
    refine List.mem_map.mpr ⟨(i + 1) % r.length, List.mem_range.mpr (Nat.mod_lt _ h0), ?_⟩
    rw [pv _ (Nat.mod_lt _ h0)]
    unfold cyc
    have e1 : ((i + 1) % r.length + (r.length - 1)) % r.length = i % r.length := by
      rw [Nat.mod_add_mod, show i + 1 + (r.length - 1) = i + r.length by omega, Nat.add_mod_right]
    have e2 : ((i + 1) % r.length + (r.length - 1) + 1) % r.length = (i + 1) % r.length := by
      rw [show (i + 1) % r.length + (r.length - 1) + 1 = (i + 1) % r.length + r.length by omega, Nat.add_mod_right, Nat.mod_mod]
    rw [e1, e2]
def rot (r : List Int) (a : Nat) : List Int := r.drop a ++ r.take a
theorem rot_len {r : List Int} {a : Nat} (h : a ≤ r.length) : (rot r a).length = r.length := by unfold rot; simp; omega
theorem cyc_rot {r : List Int} {a : Nat} (h : a ≤ r.length) (i : Nat) : cyc (rot r a) i = cyc r (i + a) := by
  by_cases h0 : r.length = 0
  · have e : r = [] := List.length_eq_zero_iff.mp h0
    subst e
    unfold cyc rot; simp
  · unfold cyc
    rw [rot_len h]
    have hi : i % r.length < r.length := Nat.mod_lt _ (by omega)
    have hm : (i + a) % r.length = (i % r.length + a) % r.length := by rw [Nat.mod_add_mod]
    rw [hm]
    generalize i % r.length = j at hi
    unfold rot
    simp only [List.getD_eq_getElem?_getD]
    by_cases hj : j < r.length - a
    · rw [List.getElem?_append_left (by simp; exact hj), List.getElem?_drop, Nat.mod_eq_of_lt (by omega), Nat.add_comm]
    · rw [List.getElem?_append_right (by simp; omega), List.length_drop, List.getElem?_take_of_lt (by omega)]
      have e : (j + a) % r.length = j - (r.length - a) := by
        rw [show j + a = (j - (r.length - a)) + r.length by omega, Nat.add_mod_right, Nat.mod_eq_of_lt (by omega)]
      rw [e]
theorem prs_rot {r : List Int} {a : Nat} (h : a ≤ r.length) (p : Int × Int) : p ∈ prs (rot r a) ↔ p ∈ prs r := by
  rw [mem_prs, mem_prs, rot_len h]
  constructor
  · rintro ⟨h0, i, rfl⟩
    exact ⟨h0, i + a, by rw [cyc_rot h, cyc_rot h, show i + 1 + a = i + a + 1 by omega]⟩
  · rintro ⟨h0, i, rfl⟩
    refine ⟨h0, i + (r.length - a), ?_⟩
    rw [cyc_rot h, cyc_rot h, show i + (r.length - a) + a = i + r.length by omega, show i + (r.length - a) + 1 + a = i + 1 + r.length by omega, cyc_add, cyc_add]
theorem cyc_dbl {r : List Int} (i : Nat) : cyc (r ++ r) i = cyc r i := by
  by_cases h0 : r.length = 0
  · have e : r = [] := List.length_eq_zero_iff.mp h0
    subst e; rfl
  · unfold cyc
    rw [List.length_append]
    have hi : i % (r.length + r.length) < r.length + r.length := Nat.mod_lt _ (by omega)
    have hm : i % r.length = (i % (r.length + r.length)) % r.length := by
      rw [Nat.mod_mod_of_dvd _ ⟨2, by omega⟩]
    rw [hm]
    generalize i % (r.length + r.length) = j at hi
    simp only [List.getD_eq_getElem?_getD]
    by_cases hj : j < r.length
    · rw [List.getElem?_append_left hj, Nat.mod_eq_of_lt hj]
    · rw [List.getElem?_append_right (by omega)]
      have e : j % r.length = j - r.length := by
        rw [show j = (j - r.length) + r.length by omega, Nat.add_mod_right, Nat.mod_eq_of_lt (by omega)]; omega
      rw [e]
theorem prs_dbl {r : List Int} (p : Int × Int) : p ∈ prs (r ++ r) ↔ p ∈ prs r := by
  rw [mem_prs, mem_prs, List.length_append]
  constructor
  · rintro ⟨h0, i, rfl⟩
    exact ⟨by omega, i, by rw [cyc_dbl, cyc_dbl]⟩
  · rintro ⟨h0, i, rfl⟩
    exact ⟨by omega, i, by rw [cyc_dbl, cyc_dbl]⟩
theorem cyc_rev {r : List Int} (h0 : 0 < r.length) (i : Nat) : cyc r.reverse i = cyc r (r.length - 1 - i % r.length) := by
  unfold cyc
  rw [List.length_reverse]
  have hi : i % r.length < r.length := Nat.mod_lt _ h0
  simp only [List.getD_eq_getElem?_getD]
  rw [List.getElem?_reverse hi, Nat.mod_eq_of_lt (show r.length - 1 - i % r.length < r.length by omega)]
theorem prs_rev {r : List Int} (p : Int × Int) (h : p ∈ prs r.reverse) : sw p ∈ prs r := by
  rw [mem_prs, List.length_reverse] at h
  obtain ⟨h0, i, rfl⟩ := h
  rw [mem_prs]
  refine ⟨h0, r.length - 1 - (i + 1) % r.length, ?_⟩
  rw [cyc_rev h0, cyc_rev h0]
  unfold sw
  simp only
  congr 1
  have hi : i % r.length < r.length := Nat.mod_lt _ h0
  by_cases e : i % r.length + 1 = r.length
  · have e1 : (i + 1) % r.length = 0 := by rw [← Nat.mod_add_mod, e, Nat.mod_self]
    rw [e1, show r.length - 1 - 0 + 1 = 0 + r.length by omega, cyc_add, show r.length - 1 - i % r.length = 0 by omega]
  · have e1 : (i + 1) % r.length = i % r.length + 1 := by rw [← Nat.mod_add_mod, Nat.mod_eq_of_lt (by omega)]
    rw [e1, show r.length - 1 - (i % r.length + 1) + 1 = r.length - 1 - i % r.length by omega]
theorem sid_rot (k : Int) {r : List Int} {a : Nat} (h : a ≤ r.length) : sidU k (prs (rot r a)) = sidU k (prs r) ∧ sidV k (prs (rot r a)) = sidV k (prs r) := sid_same k (prs_rot h)
theorem sid_dbl (k : Int) {r : List Int} : sidU k (prs (r ++ r)) = sidU k (prs r) ∧ sidV k (prs (r ++ r)) = sidV k (prs r) := sid_same k prs_dbl
theorem sid_rev (k : Int) {r : List Int} : sidU k (prs r.reverse) = sidV k (prs r) ∧ sidV k (prs r.reverse) = sidU k (prs r) := sid_swap k (fun p hp => prs_rev p hp) (fun p hp => prs_rev p (by rw [List.reverse_reverse]; exact hp))
end K12
set_option maxHeartbeats 1000000
namespace K12
open PySem PySem.Spec PyProof.Rows L2 TQ
def toldD (d : D) : D := .tup [.str "told", d]
@[simp] theorem pairD_pure {p : Int × Int} : (pairD p).pure = true := rfl
theorem optD_pure {o : Option Nat} : (optD o).pure = true := by cases o <;> rfl
theorem v_law_sides (k : Int) (r : List Int) (hk : 1 ≤ k ∧ k ≤ 60) (h : okRow r) : g_f_law_sides [.int k, rowD r] = .ok (toldD (pairD (sidU k (prs r), sidV k (prs r)))) [.int k, rowD r] := by
  refine fn_eq rfl ?_
  simp -implicitDefEqProofs [v_sides k r hk h, toldD]
theorem v_law_middle (k : Int) (rs : List (List Int)) (hk : 1 ≤ k ∧ k ≤ 60) (hl8 : rs.length ≤ 8) (h : ∀ r ∈ rs, okRow r) : g_f_law_middle [.int k, .tup (rs.map rowD)] = .ok (toldD (optD (midRow k rs))) [.int k, .tup (rs.map rowD)] := by
  refine fn_eq rfl ?_
  simp -implicitDefEqProofs [v_middle_row k rs hk hl8 h, toldD, rows_pure]
/-! the jar -/
def jarD (a b c : Int) : D := .lst [.int a, .int b, .int c]
def okJar (d : D) : Prop := ∃ a b c, d = jarD a b c ∧ 0 ≤ a ∧ a.natAbs.log2 < 8000 ∧ 0 ≤ b ∧ b < 2147483647
theorem jar_lst {d : D} (h : okJar d) : ∃ l, d = .lst l := by obtain ⟨a, b, c, rfl, _⟩ := h; exact ⟨_, rfl⟩
theorem log2_div {a m : Int} (h0 : 0 ≤ a) (h : a.natAbs.log2 < 8000) (hm : 1 ≤ m) : 0 ≤ a / m ∧ (a / m).natAbs.log2 < 8000 := by
  have h1 : 0 ≤ a / m := Int.ediv_nonneg h0 (by omega)
  have h2 : a / m ≤ a := Int.ediv_le_self m h0
  refine ⟨h1, ?_⟩
  by_cases z : (a / m).natAbs = 0
  · rw [z]; decide
  · refine (Nat.log2_lt z).mpr ?_
    have za : a.natAbs ≠ 0 := by omega
    have := (Nat.log2_lt za).mp h
    omega
theorem v_take (jar : D) (m : Int) (hj : okJar jar) (hm : 1 ≤ m ∧ m ≤ 1000000) : ∃ x jar', g_f_law_take [jar, .int m] = .ok (.int x) [jar', .int m] ∧ okJar jar' ∧ 0 ≤ x ∧ x < m := by
  obtain ⟨a, b, c, rfl, ha, hl, hb, hb2⟩ := hj
  have hd : divB a m = true := by
    unfold divB
    rw [Bool.and_eq_true]
    refine ⟨decide_eq_true (by omega), decide_eq_true ?_⟩
    exact Nat.lt_of_lt_of_le ((Nat.log2_lt (by omega)).mpr (show m.natAbs < 2 ^ 64 by omega)) (by decide)
  by_cases hp : 0 < a
  · refine ⟨a % m, jarD (a / m) b c, ?_, ⟨_, _, _, rfl, (log2_div ha hl hm.1).1, (log2_div ha hl hm.1).2, hb, hb2⟩, Int.emod_nonneg _ (by omega), Int.emod_lt_of_pos _ (by omega)⟩
    refine fn_eq rfl ?_
    have hm0 : 0 < m := by omega
    simp -implicitDefEqProofs [jarD, hp, hm0, hd]
  · generalize hs : (b * 39373 + 7919 * (c + 1) + 7) % 2147483647 = s
    have hs0 : 0 ≤ s := by rw [← hs]; exact Int.emod_nonneg _ (by omega)
    have hs1 : s < 2147483647 := by rw [← hs]; exact Int.emod_lt_of_pos _ (by omega)
    refine ⟨s * s % 2147483629 / 32 % m, jarD a s (c + 1), ?_, ⟨_, _, _, rfl, ha, hl, hs0, hs1⟩, Int.emod_nonneg _ (by omega), Int.emod_lt_of_pos _ (by omega)⟩
    refine fn_eq rfl ?_
    have hm0 : 0 < m := by omega
    have b1 : mulB b 39373 = true := mulB_r (by omega)
    have b2 : mulB 7919 (c + 1) = true := mulB_l (by omega)
    have b3 : mulB s s = true := mulB_l (by omega)
    have d1 : ∀ x : Int, divB x 32 = true := fun x => by
      unfold divB
      rfl
    simp -implicitDefEqProofs [jarD, hp, hm0, b1, b2, b3, d1, hs]
end K12
set_option maxHeartbeats 2000000
namespace K12
open PySem PySem.Spec PyProof.Rows L2 TQ
theorem v_one (jar : D) (ns : List Int) (hj : okJar jar) (h0 : 0 < ns.length) (hn : ns.length ≤ 1000) : ∃ n jar', n ∈ ns ∧ g_f_law_one [jar, .lst (intsOf ns)] = .ok (.int n) [jar', .lst (intsOf ns)] ∧ okJar jar' := by
  obtain ⟨x, jar', e, hj', x0, x1⟩ := v_take jar ns.length hj ⟨by omega, by omega⟩
  obtain ⟨lj, rfl⟩ := jar_lst hj
  obtain ⟨lj', rfl⟩ := jar_lst hj'
  obtain ⟨i, rfl⟩ : ∃ i : Nat, x = (i : Int) := ⟨x.toNat, by omega⟩
  have hi : i < ns.length := by omega
  refine ⟨ns[i], .lst lj', List.getElem_mem _, ?_, hj'⟩
  refine fn_eq rfl ?_
  simp -implicitDefEqProofs [intsOf_len, e, row_at hi]
theorem v_qg_k (jar : D) (hj : okJar jar) : ∃ k jar', 1 ≤ k ∧ k ≤ 60 ∧ g_f_law_qg_k [jar] = .ok (.int k) [jar'] ∧ okJar jar' := by
  obtain ⟨x, jar', e, hj', x0, x1⟩ := v_take jar 60 hj ⟨by omega, by omega⟩
  obtain ⟨k, jar2, hk, e2, hj2⟩ := v_one jar' [1, 2, 3, 4, 5, 6, 7, 8, 12, 1 + x, 60] hj' (by simp) (by simp)
  obtain ⟨lj, rfl⟩ := jar_lst hj
  obtain ⟨lj', rfl⟩ := jar_lst hj'
  obtain ⟨lj2, rfl⟩ := jar_lst hj2
  simp only [List.mem_cons, List.not_mem_nil, or_false] at hk
  refine ⟨k, .lst lj2, by omega, by omega, ?_, hj2⟩
  refine fn_eq rfl ?_
  simp only [intsOf, List.map] at e2
  simp -implicitDefEqProofs [e, e2]
def rowP (k : Int) (d : D) (l : List D) : Prop := ∃ r jar', d = rowD r ∧ l = [jar', .int k] ∧ okRow r ∧ okJar jar'
theorem lst_pure (l : List D) : (D.lst l).pure = false := rfl
theorem flt_fm (p : Int → Bool) (f : D → Option D) (h : ∀ g : Int, f (.int g) = if p g then some (.int g) else none) : ∀ l : List Int, (intsOf l).filterMap f = intsOf (l.filter p)
  | [] => rfl
  | a :: l => by
    have ih := flt_fm p f h l
    unfold intsOf at ih ⊢
    rw [List.map_cons, List.filterMap_cons, h a]
    by_cases e : p a = true
    · rw [List.filter_cons_of_pos e, if_pos e, List.map_cons, ← ih]
    · rw [List.filter_cons_of_neg e, if_neg e, ← ih]
theorem v_law_row (jar : D) (k : Int) (hj : okJar jar) (hk : 1 ≤ k ∧ k ≤ 60) : (g_f_law_row [jar, .int k]).H (rowP k) := by
  obtain ⟨many, jar1, hm, e1, hj1⟩ := v_one jar [0, 1, 1, 2, 3, 4, 6, 12, 24] hj (by simp) (by simp)
  obtain ⟨x, jar2, e2, hj2, x0, x1⟩ := v_take jar1 k hj1 ⟨by omega, by omega⟩
  obtain ⟨lj, rfl⟩ := jar_lst hj
  obtain ⟨lj1, rfl⟩ := jar_lst hj1
  obtain ⟨lj2, rfl⟩ := jar_lst hj2
  simp only [List.mem_cons, List.not_mem_nil, or_false] at hm
  obtain ⟨m, rfl⟩ : ∃ m : Nat, many = (m : Int) := ⟨many.toNat, by omega⟩
  have hm24 : m ≤ 24 := by omega
  have hdiv : divB k 2 = true := rfl
  simp only [intsOf, List.map] at e1
  refine fn_run rfl ?_
  have hsome : ([.int 1, .int 2, .int (k / 2 - 1), .int (k / 2), .int (k / 2 + 1), .int (k / 2 + 2), .int (k - 1), .int k, .int (k + 1), .int (1 + x), .int 99] : List D) = intsOf [1, 2, k / 2 - 1, k / 2, k / 2 + 1, k / 2 + 2, k - 1, k, k + 1, 1 + x, 99] := rfl
  simp -implicitDefEqProofs [e1, e2, hdiv]
  rw [hsome]
  have hns0 : ([1, 2, k / 2 - 1, k / 2, k / 2 + 1, k / 2 + 2, k - 1, k, k + 1, 1 + x, 99] : List Int).length = 11 := rfl
  have h1s : (1 : Int) ∈ ([1, 2, k / 2 - 1, k / 2, k / 2 + 1, k / 2 + 2, k - 1, k, k + 1, 1 + x, 99] : List Int) := List.mem_cons_self
  generalize ([1, 2, k / 2 - 1, k / 2, k / 2 + 1, k / 2 + 2, k - 1, k, k + 1, 1 + x, 99] : List Int) = ns0 at hns0 h1s
  rw [slotI_at (l := intsOf ns0) rfl (ints_pure _)]
  simp -implicitDefEqProofs [ints_pure, intsOf_len, hns0]
  refine lc_fm (l := intsOf ns0) (fun d => match d with | .int g => if (decide (1 ≤ g) && decide (g ≤ 99)) = true then some (.int g) else none | _ => none) (by rw [intsOf_len, hns0]) (slotI_at rfl (ints_pure _)) (by rw [intsOf_len, hns0, sizeLine_eq]; omega) (fun d hd => ?_) ?_
  · unfold intsOf at hd
    obtain ⟨g, hg, rfl⟩ := List.mem_map.mp hd
    by_cases a1 : 1 ≤ g <;> by_cases a2 : g ≤ 99 <;> simp -implicitDefEqProofs [a1, a2]
  rw [flt_fm (fun g => decide (1 ≤ g) && decide (g ≤ 99)) _ (fun g => rfl)]
  have hn1 : (1 : Int) ∈ ns0.filter (fun g => decide (1 ≤ g) && decide (g ≤ 99)) := List.mem_filter.mpr ⟨h1s, rfl⟩
  have hnl : (ns0.filter (fun g => decide (1 ≤ g) && decide (g ≤ 99))).length ≤ 11 := by rw [← hns0]; exact List.length_filter_le _ _
  have hnb : ∀ g ∈ ns0.filter (fun g => decide (1 ≤ g) && decide (g ≤ 99)), 1 ≤ g ∧ g ≤ 99 := fun g hg => by
    have := (List.mem_filter.mp hg).2
    simpa using this
  generalize ns0.filter (fun g => decide (1 ≤ g) && decide (g ≤ 99)) = ns at hn1 hnl hnb
  have hn0 : 0 < ns.length := List.length_pos_of_mem hn1
  have hok : okR (m : Int) = true := okR_of (by omega)
  simp -implicitDefEqProofs [hok]
  refine lc_run (fun i acc s => ∃ jar r, okJar jar ∧ s = [some jar, some (.int k), some (.int m), some (.int (k / 2)), some (.lst (intsOf ns)), none, none] ∧ acc = intsOf r ∧ r.length = i ∧ ∀ g ∈ r, 1 ≤ g ∧ g ≤ 99) (l := intsD 0 m) (by simp) (fun _ _ _ _ => rfl) ⟨_, [], hj2, rfl, rfl, rfl, fun g hg => by cases hg⟩ (fun i hi acc s hs => ?_) (fun acc s hs => ?_)
  · obtain ⟨jar, r, hj, rfl, rfl, hl, hr⟩ := hs
    obtain ⟨n, jar', hn, e3, hj'⟩ := v_one jar ns hj hn0 (by omega)
    obtain ⟨a, rfl⟩ := jar_lst hj
    obtain ⟨b, rfl⟩ := jar_lst hj'
    rw [intsD_len] at hi
    simp -implicitDefEqProofs [e3]
    refine ⟨by rw [intsOf_len, sizeLine_eq]; omega, .lst b, hj', rfl, r ++ [n], by unfold intsOf; simp, by simp [hl], fun g hg => ?_⟩
    rcases List.mem_append.mp hg with hg | hg
    · exact hr g hg
    · have : g = n := by simpa using hg
      rw [this]; exact hnb n hn
  · obtain ⟨jar, r, hj, rfl, rfl, hl, hr⟩ := hs
    obtain ⟨a, rfl⟩ := jar_lst hj
    simp -implicitDefEqProofs [ints_pure]
    exact ⟨r, _, rfl, rfl, ⟨by omega, hr⟩, hj⟩
end K12
set_option maxHeartbeats 2000000
namespace K12
open PySem PySem.Spec PyProof.Rows L2 TQ
theorem pow12 : fPow [.int 10, .int 12] = some (.int 1000000000000) := by rfl
theorem pow60 : fPow [.int 10, .int 60] = some (.int 1000000000000000000000000000000000000000000000000000000000000) := by rfl
theorem wide60 {a : Int} (h0 : 0 ≤ a) (h : a < 1000000000000000000000000000000000000000000000000000000000000) : wideB a 1000000000000000000000000000000000000000000000000000000000000 = true := by
  unfold wideB
  refine decide_eq_true ?_
  have e : (1000000000000000000000000000000000000000000000000000000000000 : Int).natAbs.log2 = 199 := by decide +kernel
  rw [e]
  by_cases z : a.natAbs = 0
  · rw [z]; decide
  · have : a.natAbs.log2 < 200 := (Nat.log2_lt z).mpr (by omega)
    omega
def poolP (ns : List Int) (d : D) (l : List D) : Prop := okJar d ∧ l = [.frl (intsOf ns)]
theorem v_bounds : g_f_law_bounds_right [] = .ok (.bl true) [] := by kernel_rfl
def poolI (ns : List Int) (_ : Nat) (s : Sd) : Prop := ∃ a b x y, s = [some (.frl (intsOf ns)), some (.int a), some (.int b), x, y] ∧ (0 ≤ a ∧ a < 1000000000000000000000000000000000000000000000000000000000000000000000000000000000000000000000000000000000000000000000000) ∧ 0 ≤ b ∧ b < 2147483647
theorem H_iff {S α : Type} {r : Rs S α} {Q : α → S → Prop} : r.H Q = ∃ a s, r = .ok a s ∧ Q a s := propext ⟨fun h => h.ex, fun ⟨a, s, e, q⟩ => Rs.H.of e q⟩
theorem v_pool (ns : List Int) (hl : ns.length ≤ 63) : ∃ d l, g_f_law_pool [.frl (intsOf ns)] = .ok d l ∧ poolP ns d l := by
  have h1 : okR (ns.length : Int) = true := okR_len hl (by omega)
  rw [← H_iff, show g_f_law_pool = fnM 5 1 [0] _ from rfl, x_fn (by rfl)]
  simp -implicitDefEqProofs [ints_pure, intsOf_len, h1]
  refine for_run (poolI ns) (l := intsD 0 ns.length) (by simp) (fun _ _ _ => rfl) ⟨_, _, _, _, rfl, ⟨by omega, by omega⟩, by omega, by omega⟩ (fun i hi s hs => ?_) (fun s hs => ?_)
  · obtain ⟨a, b, x, y, rfl, ⟨ha, ha2⟩, hb, hb2⟩ := hs
    rw [intsD_len] at hi
    have ra := row_at hi
    generalize ns[i] = c at ra
    generalize hc : (if 0 ≤ c then c else -1 - c) = c'
    have b1 : mulB b 48271 = true := mulB_r (by omega)
    generalize hs : (b * 48271 + c' % 2147483629 + 11) % 2147483647 = s
    have hs0 : 0 ≤ s := by rw [← hs]; exact Int.emod_nonneg _ (by omega)
    have hs1 : s < 2147483647 := by rw [← hs]; exact Int.emod_lt_of_pos _ (by omega)
    have hr0 : 0 ≤ c' % 1000000000000000000000000000000000000000000000000000000000000 := Int.emod_nonneg _ (by omega)
    have hr1 : c' % 1000000000000000000000000000000000000000000000000000000000000 < 1000000000000000000000000000000000000000000000000000000000000 := Int.emod_lt_of_pos _ (by omega)
    by_cases h0 : 0 ≤ c
    · rw [if_pos h0] at hc
      subst hc
      by_cases h2 : 1000000000000 ≤ c
      · by_cases h3 : a < 1000000000000000000000000000000000000000000000000000000000000
        · simp -implicitDefEqProofs [ra, ints_pure, h0, h2, h3, b1, hs, pow12, pow60, wide60 ha h3]
          exact ⟨_, _, _, _, rfl, ⟨by omega, by omega⟩, hs0, hs1⟩
        · simp -implicitDefEqProofs [ra, ints_pure, h0, h2, h3, b1, hs, pow12, pow60]
          exact ⟨_, _, _, _, rfl, ⟨ha, ha2⟩, hs0, hs1⟩
      · simp -implicitDefEqProofs [ra, ints_pure, h0, h2, b1, hs, pow12, pow60]
        exact ⟨_, _, _, _, rfl, ⟨ha, ha2⟩, hs0, hs1⟩
    · rw [if_neg h0] at hc
      subst hc
      by_cases h2 : 1000000000000 ≤ -1 - c
      · by_cases h3 : a < 1000000000000000000000000000000000000000000000000000000000000
        · simp -implicitDefEqProofs [ra, ints_pure, h0, h2, h3, b1, hs, pow12, pow60, wide60 ha h3]
          exact ⟨_, _, _, _, rfl, ⟨by omega, by omega⟩, hs0, hs1⟩
        · simp -implicitDefEqProofs [ra, ints_pure, h0, h2, h3, b1, hs, pow12, pow60]
          exact ⟨_, _, _, _, rfl, ⟨ha, ha2⟩, hs0, hs1⟩
      · simp -implicitDefEqProofs [ra, ints_pure, h0, h2, b1, hs, pow12, pow60]
        exact ⟨_, _, _, _, rfl, ⟨ha, ha2⟩, hs0, hs1⟩
  · obtain ⟨a, b, x, y, rfl, ⟨ha, ha2⟩, hb, hb2⟩ := hs
    simp -implicitDefEqProofs [ints_pure]
    refine ⟨⟨a, b, 0, rfl, ha, ?_, hb, hb2⟩, rfl⟩
    by_cases z : a.natAbs = 0
    · rw [z]; decide
    · have : a.natAbs.log2 < 400 := (Nat.log2_lt z).mpr (by omega)
      omega
end K12
set_option maxHeartbeats 2000000
namespace K12
open PySem PySem.Spec PyProof.Rows L2 TQ
/-! equal data -/
theorem ne_same {d : D} (h : eqOk d = true) : fNe [d, d] = some (.bl false) := by
  unfold fNe
  simp only [h, Bool.and_self, if_true]
  have h1 : d.okd = true := by unfold eqOk at h; rw [Bool.and_eq_true] at h; exact h.1
  rw [PySem.SeqAt.eqv_refl _ (py_lay d h1)]; rfl
theorem neA_same {d : D} (h : eqOk d = true) : fNeA [d, d] = some (.bl false) := by
  unfold fNeA
  split
  · rename_i a b e; cases e; simp
  · exact ne_same h
/-! sums are small -/
theorem cyc_mem {r : List Int} (h0 : 0 < r.length) (i : Nat) : cyc r i ∈ r := by
  unfold cyc
  have hi : i % r.length < r.length := Nat.mod_lt _ h0
  rw [getD_at hi]; exact List.getElem_mem _
theorem sid_small {k : Int} {r : List Int} (hk : 1 ≤ k ∧ k ≤ 60) (h : okRow r) : (0 ≤ sidU k (prs r) ∧ sidU k (prs r) ≤ 1000) ∧ 0 ≤ sidV k (prs r) ∧ sidV k (prs r) ≤ 1000 := by
  have pb : ∀ p ∈ prs r, 1 ≤ p.1 ∧ p.1 ≤ 99 ∧ 1 ≤ p.2 ∧ p.2 ≤ 99 := fun p hp => by
    obtain ⟨h0, i, rfl⟩ := mem_prs.mp hp
    exact ⟨(h.2 _ (cyc_mem h0 _)).1, (h.2 _ (cyc_mem h0 _)).2, (h.2 _ (cyc_mem h0 _)).1, (h.2 _ (cyc_mem h0 _)).2⟩
  rw [sidU_G, sidV_G]
  obtain ⟨a1, _, a3⟩ := sidG_is (cU k) (vS k) (prs r) 0
  obtain ⟨b1, _, b3⟩ := sidG_is (cV k) (vS k) (prs r) 0
  change 0 ≤ sidG (cU k) (vS k) (prs r) at a1
  change 0 ≤ sidG (cV k) (vS k) (prs r) at b1
  change (sidG (cU k) (vS k) (prs r) = 0 ∨ ∃ p ∈ prs r, cU k p ∧ vS k p = sidG (cU k) (vS k) (prs r)) at a3
  change (sidG (cV k) (vS k) (prs r) = 0 ∨ ∃ p ∈ prs r, cV k p ∧ vS k p = sidG (cV k) (vS k) (prs r)) at b3
  refine ⟨⟨a1, ?_⟩, b1, ?_⟩
  · rcases a3 with a3 | ⟨p, hp, _, e⟩
    · omega
    · have := pb p hp; change p.1 + p.2 - k = _ at e; omega
  · rcases b3 with b3 | ⟨p, hp, _, e⟩
    · omega
    · have := pb p hp; change p.1 + p.2 - k = _ at e; omega
theorem sh_pair {p : Int × Int} (h1 : 0 ≤ p.1 ∧ p.1 ≤ 1000) (h2 : 0 ≤ p.2 ∧ p.2 ≤ 1000) : (pairD p).sh = true := by
  unfold pairD
  simp [sh_int (i := p.1) (by omega), sh_int (i := p.2) (by omega)]
theorem sh_ts : (D.str "told").sh = true := by decide +kernel
theorem rb_ts : (D.str "told").rb = 42 := by decide +kernel
theorem sh_told {d : D} (h : d.sh = true) : (toldD d).sh = true := by
  unfold toldD
  simp [h, sh_ts]
theorem rb_told {d : D} : (toldD d).rb = d.rb + 49 := by
  unfold toldD
  simp [rb_ts]
  omega
theorem dep_told {d : D} : (toldD d).dep = d.dep + 1 := by unfold toldD; simp
theorem rb_pair {p : Int × Int} : (pairD p).rb = 3849 := by unfold pairD; simp
theorem dep_pair {p : Int × Int} : (pairD p).dep = 1 := by unfold pairD; simp
theorem eq_told {d : D} (h1 : d.sh = true) (h2 : d.dep ≤ 60) : eqOk (toldD d) = true := by
  unfold eqOk
  rw [Bool.and_eq_true]
  exact ⟨sh_okd _ (sh_told h1), decide_eq_true (by rw [dep_told]; omega)⟩
/-! the rows that are asked for -/
theorem rot_ok {r : List Int} {a : Nat} (ha : a ≤ r.length) (h : okRow r) : okRow (rot r a) := ⟨by rw [rot_len ha]; exact h.1, fun x hx => by
  unfold rot at hx
  rcases List.mem_append.mp hx with hx | hx
  · exact h.2 x (List.mem_of_mem_drop hx)
  · exact h.2 x (List.mem_of_mem_take hx)⟩
theorem rev_ok {r : List Int} (h : okRow r) : okRow r.reverse := ⟨by rw [List.length_reverse]; exact h.1, fun x hx => h.2 x (List.mem_reverse.mp hx)⟩
theorem dbl_ok {r : List Int} (hl : r.length < 13) (h : okRow r) : okRow (r ++ r) := ⟨by rw [List.length_append]; omega, fun x hx => h.2 x ((List.mem_append.mp hx).elim id id)⟩
theorem cut_rot {r : List Int} {a : Nat} (ha : a ≤ r.length) : TQ.cutD (intsOf r) (some (a : Int)) none ++ TQ.cutD (intsOf r) none (some (a : Int)) = intsOf (rot r a) := by
  unfold TQ.cutD
  rw [HT.sIx_nat, HT.sIx_nat, HT.sIx_none, HT.sIx_none, intsOf_len, Nat.min_eq_left ha]
  unfold intsOf rot
  rw [List.map_append, List.map_drop, List.map_take]
  congr 1
  · rw [List.take_of_length_le (by simp)]
theorem cut_pure {r : List Int} {lo hi : Option Int} : pureL (TQ.cutD (intsOf r) lo hi) = true := by
  unfold TQ.cutD intsOf
  rw [← List.map_drop, ← List.map_take]
  exact ints_pure _
theorem cut_len {r : List Int} {lo hi : Option Int} : (TQ.cutD (intsOf r) lo hi).length ≤ r.length := by
  unfold TQ.cutD
  rw [List.length_take, List.length_drop, intsOf_len]; omega
theorem rev_ints (r : List Int) : (intsOf r).reverse = intsOf r.reverse := by unfold intsOf; rw [List.map_reverse]
theorem mul_two (r : List Int) (hl : r.length ≤ 1000) : fMul [.tup (intsOf r), .int 2] = some (.tup (intsOf (r ++ r))) := by
  have e : (List.replicate (Int.toNat 2) (intsOf r)).flatten = intsOf (r ++ r) := by
    unfold intsOf
    rw [List.map_append]
    show (List.replicate 2 (r.map D.int)).flatten = _
    simp [List.replicate_succ]
  show (if pureL (intsOf r) && (decide (intsOf r = []) || decide ((2 : Int) = 1)) && decide (-1000 ≤ (2 : Int) ∧ (2 : Int) ≤ 1000) then some (D.tup (List.replicate (Int.toNat 2) (intsOf r)).flatten)
    else if pureL (intsOf r) && decide (intsOf r ≠ []) && decide (2 ≤ (2 : Int) ∧ (2 : Int) ≤ 1000 ∧ (intsOf r).length ≤ 1000) then some (.tup (List.replicate (Int.toNat 2) (intsOf r)).flatten) else none) = _
  rw [e, ints_pure]
  by_cases h : intsOf r = []
  · simp [h]
  · rw [if_neg (by simp [h]), if_pos (by simp [h, intsOf_len, hl])]
theorem mid_one (k : Int) (r : List Int) : midRow k [r] = if hasM k r then some 0 else none := by
  unfold midRow
  simp [firstI]
theorem add_rows {a b : List D} (h1 : pureL a = true) (h2 : pureL b = true) (h : a.length + b.length ≤ 1000000) : fAdd [.tup a, .tup b] = some (.tup (a ++ b)) := by
  rw [fAdd_tup, if_pos]
  simp only [h1, h2, Bool.true_and]
  unfold smallB
  exact decide_eq_true (by rw [sizeLine_eq]; omega)
def rowP2 (k : Int) (r : List Int) (d : D) (l : List D) : Prop := ∃ jar', d = .bl true ∧ l = [jar', .int k, rowD r] ∧ okJar jar'
theorem v_row_right (jar : D) (k : Int) (r : List Int) (hj : okJar jar) (hk : 1 ≤ k ∧ k ≤ 60) (h : okRow r) : (g_f_law_row_right [jar, .int k, rowD r]).H (rowP2 k r) := by
  -- the place at which the row is cut
  have key : ∃ (a : Nat) (jar' : D), a ≤ r.length ∧ okJar jar' ∧ (r = [] → a = 0 ∧ jar' = jar) ∧ (r ≠ [] → g_f_law_take [jar, .int r.length] = .ok (.int a) [jar', .int r.length]) := by
    by_cases hr : r = []
    · exact ⟨0, jar, by omega, hj, fun _ => ⟨rfl, rfl⟩, fun z => absurd hr z⟩
    · have h0 : 0 < r.length := by cases r with | nil => exact absurd rfl hr | cons _ _ => simp
      have hl := h.1
      obtain ⟨x, jar', e, hj', x0, x1⟩ := v_take jar r.length hj ⟨by omega, by omega⟩
      obtain ⟨i, rfl⟩ : ∃ i : Nat, x = (i : Int) := ⟨x.toNat, by omega⟩
      exact ⟨i, jar', by omega, hj', fun z => absurd z hr, fun _ => e⟩
  obtain ⟨a, jar', ha, hj', hnil, htake⟩ := key
  obtain ⟨lj, rfl⟩ := jar_lst hj
  obtain ⟨lj', rfl⟩ := jar_lst hj'
  have hl := h.1
  have s1 := v_law_sides k r hk h
  have s2 := v_law_sides k (rot r a) hk (rot_ok ha h)
  have s3 := v_law_sides k r.reverse hk (rev_ok h)
  rw [(sid_rot k ha).1, (sid_rot k ha).2] at s2
  rw [(sid_rev k (r := r)).1, (sid_rev k (r := r)).2] at s3
  have s4 := v_sides k r hk h
  have s0 := v_qt_sides k r h
  have sm := sid_small hk h
  have s5 : r.length < 13 → g_f_law_sides [.int k, rowD (r ++ r)] = .ok (toldD (pairD (sidU k (prs r), sidV k (prs r)))) [.int k, rowD (r ++ r)] := fun z => by
    have := v_law_sides k (r ++ r) hk (dbl_ok z h)
    rw [(sid_dbl k (r := r)).1, (sid_dbl k (r := r)).2] at this
    exact this
  have s6 := v_law_middle k [r] hk (by simp) (fun x hx => by simp at hx; rw [hx]; exact h)
  rw [mid_one] at s6
  have s7 := v_qt_is_middle k r h
  generalize hu : sidU k (prs r) = u at s1 s2 s3 s4 s5 s0 sm
  generalize hv : sidV k (prs r) = v at s1 s2 s3 s4 s5 s0 sm
  have c1 : fAdd [.tup (TQ.cutD (intsOf r) (some (a : Int)) none), .tup (TQ.cutD (intsOf r) none (some (a : Int)))] = some (rowD (rot r a)) := by
    have l1 := cut_len (r := r) (lo := some (a : Int)) (hi := none)
    have l2 := cut_len (r := r) (lo := none) (hi := some (a : Int))
    rw [add_rows cut_pure cut_pure (by omega), cut_rot ha]; rfl
  have hp := sh_pair (p := (u, v)) sm.1 sm.2
  have hq := sh_pair (p := (v, u)) sm.2 sm.1
  have rep1 : fRepr [.lst [toldD (pairD (u, v)), toldD (pairD (u, v)), toldD (pairD (v, u)), toldD (pairD (u, v))]] = some (.str (D.lst [toldD (pairD (u, v)), toldD (pairD (u, v)), toldD (pairD (v, u)), toldD (pairD (u, v))]).py.shown) :=
    repr_of rfl (by simp [sh_told hp, sh_told hq]) (by simp [dep_told, dep_pair]) (by rw [sizeLine_eq]; simp [rb_told, rb_pair])
  have rep2 : ∀ o : D, (o = .int 0 ∨ o = .non) → fRepr [toldD o] = some (.str (toldD o).py.shown) := fun o ho => by
    rcases ho with rfl | rfl
    · exact repr_of rfl (sh_told (sh_int (by omega))) (by rw [dep_told]; simp) (by rw [sizeLine_eq, rb_told]; simp)
    · exact repr_of rfl (sh_told rfl) (by rw [dep_told]; simp) (by rw [sizeLine_eq, rb_told]; simp)
  have hrev : fRev [pairD (u, v)] = some (pairD (v, u)) := rfl
  have q1 : eqOk (toldD (pairD (u, v))) = true := eq_told hp (by rw [dep_pair]; omega)
  have n1 := neA_same q1
  have m2 := mul_two r (by omega)
  have e0 := ne_nilT r
  have pm : permL [1, 0] [rowD r, .int k] = [.int k, rowD r] := rfl
  simp only [rowD, toldD, List.map] at s0 s1 s2 s3 s4 s5 s6 s7 rep1 rep2 c1 n1 pm
  rw [show g_f_law_row_right = fnM 6 3 [0, 1, 2] _ from rfl, x_fn (by rfl)]
  have rv := rev_ints r
  have fin : ∀ lj2 : List D, okJar (.lst lj2) → rowP2 k r (.bl true) [.lst lj2, .int k, .tup (intsOf r)] := fun lj2 h2 => ⟨_, rfl, rfl, h2⟩
  have r0 := rep2 (.int 0) (.inl rfl)
  have r1 := rep2 .non (.inr rfl)
  by_cases hr : r = []
  · obtain ⟨rfl, e⟩ := hnil hr
    cases e
    have c1 : fAdd [.tup (TQ.cutD (intsOf r) (some 0) none), .tup (TQ.cutD (intsOf r) none (some 0))] = some (.tup (intsOf (rot r 0))) := c1
    have c2 : r.isEmpty = true := by rw [hr]; rfl
    by_cases h13 : r.length < 13
    · have h13i : (r.length : Int) < 13 := by omega
      have s5 := s5 h13
      by_cases hM : hasM k r = true
      · simp only [hM, if_true, optD] at s6
        simp -implicitDefEqProofs [-fRepr_one, -fAdd_tup, rowD, ints_pure, intsOf_len, sizeLine_eq, s0, s1, s2, s3, s4, s5, s6, s7, rep1, c1, n1, m2, e0, pm, hrev, rv, r0, r1, c2, h13i, hM, cut_pure]
        exact fin _ hj
      · rw [Bool.not_eq_true] at hM
        simp only [hM, optD] at s6
        simp -implicitDefEqProofs [-fRepr_one, -fAdd_tup, rowD, ints_pure, intsOf_len, sizeLine_eq, s0, s1, s2, s3, s4, s5, s6, s7, rep1, c1, n1, m2, e0, pm, hrev, rv, r0, r1, c2, h13i, hM, cut_pure]
        exact fin _ hj
    · rw [hr] at h13; simp at h13
  · have htake := htake hr
    have c2 : r.isEmpty = false := by cases r with | nil => exact absurd rfl hr | cons _ _ => rfl
    by_cases h13 : r.length < 13
    · have h13i : (r.length : Int) < 13 := by omega
      have s5 := s5 h13
      by_cases hM : hasM k r = true
      · simp only [hM, if_true, optD] at s6
        simp -implicitDefEqProofs [-fRepr_one, -fAdd_tup, rowD, ints_pure, intsOf_len, sizeLine_eq, htake, s0, s1, s2, s3, s4, s5, s6, s7, rep1, c1, n1, m2, e0, pm, hrev, rv, r0, r1, c2, h13i, hM, cut_pure]
        exact fin _ hj'
      · rw [Bool.not_eq_true] at hM
        simp only [hM, optD] at s6
        simp -implicitDefEqProofs [-fRepr_one, -fAdd_tup, rowD, ints_pure, intsOf_len, sizeLine_eq, htake, s0, s1, s2, s3, s4, s5, s6, s7, rep1, c1, n1, m2, e0, pm, hrev, rv, r0, r1, c2, h13i, hM, cut_pure]
        exact fin _ hj'
    · have h13i : ¬ (r.length : Int) < 13 := by omega
      by_cases hM : hasM k r = true
      · simp only [hM, if_true, optD] at s6
        simp -implicitDefEqProofs [-fRepr_one, -fAdd_tup, rowD, ints_pure, intsOf_len, sizeLine_eq, htake, s0, s1, s2, s3, s4, s6, s7, rep1, c1, n1, m2, e0, pm, hrev, rv, r0, r1, c2, h13i, hM, cut_pure]
        exact fin _ hj'
      · rw [Bool.not_eq_true] at hM
        simp only [hM, optD] at s6
        simp -implicitDefEqProofs [-fRepr_one, -fAdd_tup, rowD, ints_pure, intsOf_len, sizeLine_eq, htake, s0, s1, s2, s3, s4, s6, s7, rep1, c1, n1, m2, e0, pm, hrev, rv, r0, r1, c2, h13i, hM, cut_pure]
        exact fin _ hj'
end K12
set_option maxHeartbeats 2000000
namespace K12
open PySem PySem.Spec PyProof.Rows L2 TQ
theorem firstI_lt : ∀ {l : List Bool} {j i : Nat}, firstI l j = some i → i < j + l.length
  | [], _, _, h => by cases h
  | b :: l, j, i, h => by
    unfold firstI at h
    cases b with
    | true => rw [if_pos rfl] at h; cases h; simp
    | false =>
      rw [if_neg (by decide)] at h
      have := firstI_lt h
      simp; omega
theorem firstI_add : ∀ (l : List Bool) (j m : Nat), firstI l (j + m) = (firstI l j).map (· + m)
  | [], _, _ => rfl
  | b :: l, j, m => by
    unfold firstI
    cases b with
    | true => rfl
    | false =>
      rw [if_neg (by decide), if_neg (by decide), show j + m + 1 = (j + 1) + m by omega]
      exact firstI_add l (j + 1) m
theorem hasM_nil (k : Int) : hasM k [] = false := rfl
theorem hasM_one {k : Int} (h : 1 < k) : hasM k [1] = false := by
  unfold hasM prs bigs prev
  simp
  omega
theorem mid_two {k : Int} (h : 1 < k) (rs : List (List Int)) : midRow k ([] :: [1] :: rs) = (midRow k rs).map (· + 2) := by
  unfold midRow
  rw [List.map_cons, List.map_cons, hasM_nil, hasM_one h]
  have e : ∀ l, firstI (false :: false :: l) 0 = firstI l (0 + 2) := fun l => rfl
  rw [e]
  exact firstI_add (rs.map (hasM k)) 0 2
theorem opt_sh {k : Int} {rs : List (List Int)} (hl8 : rs.length ≤ 1000) : (optD (midRow k rs)).sh = true ∧ (optD (midRow k rs)).rb ≤ 1921 ∧ (optD (midRow k rs)).dep = 0 := by
  cases e : midRow k rs with
  | none => exact ⟨rfl, by unfold optD; simp, rfl⟩
  | some i =>
    have : i < 0 + (rs.map (hasM k)).length := firstI_lt e
    rw [List.length_map] at this
    exact ⟨sh_int (by omega), by unfold optD; simp, rfl⟩
theorem mul_one {t : D} (h : t.pure = true) : fMul [.lst [t], .int 2] = some (.lst [t, t]) := by
  show (if pureL [t] && decide (-1000000 ≤ (2 : Int) ∧ (2 : Int) ≤ 1000000) && smallB ([t].length * (Int.toNat 2)) then some (D.lst (List.replicate (Int.toNat 2) [t]).flatten) else none) = _
  rw [if_pos (by simp [h, smallB, sizeLine_eq])]
  rfl
theorem v_rows_right (jar : D) (k : Int) (rs : List (List Int)) (hj : okJar jar) (hk : 1 ≤ k ∧ k ≤ 60) (hl8 : rs.length ≤ 8) (h : ∀ r ∈ rs, okRow r) : g_f_law_rows_right [jar, .int k, .tup (rs.map rowD)] = .ok (.bl true) [jar, .int k, .tup (rs.map rowD)] := by
  obtain ⟨lj, rfl⟩ := jar_lst hj
  have s0 := v_qt_middle_row k rs hl8 h
  have s1 := v_law_middle k rs hk hl8 h
  have s2 := v_middle_row k rs hk hl8 h
  obtain ⟨o1, o2, o3⟩ := opt_sh (k := k) (rs := rs) (by omega)
  have op := optD_pure (o := midRow k rs)
  have m2 := mul_one (t := toldD (optD (midRow k rs))) (by unfold toldD; simp [op])
  have rep1 : fRepr [.lst [toldD (optD (midRow k rs)), toldD (optD (midRow k rs))]] = some (.str (D.lst [toldD (optD (midRow k rs)), toldD (optD (midRow k rs))]).py.shown) :=
    repr_of rfl (by simp [sh_told o1]) (by simp [dep_told, o3]) (by rw [sizeLine_eq]; simp [rb_told]; omega)
  have pm : permL [1, 0] [D.tup (rs.map rowD), D.int k] = [D.int k, D.tup (rs.map rowD)] := rfl
  have rp := rows_pure rs
  have ad : fAdd [.tup [.tup [], .tup [.int 1]], .tup (rs.map rowD)] = some (.tup (([] :: [1] :: rs : List (List Int)).map rowD)) := by
    rw [add_rows rfl rp (by simp; omega)]; rfl
  rw [show g_f_law_rows_right = fnM 5 3 [0, 1, 2] _ from rfl]
  refine Rs.H.eq ?_
  rw [x_fn (by rfl)]
  by_cases h7 : rs.length < 7 ∧ 1 < k
  · obtain ⟨h7, h1⟩ := h7
    have h7i : (rs.length : Int) < 7 := by omega
    have s3 := v_law_middle k ([] :: [1] :: rs) hk (by simp; omega) (fun x hx => by
      rcases List.mem_cons.mp hx with rfl | hx
      · exact ⟨by simp, fun y hy => by cases hy⟩
      · rcases List.mem_cons.mp hx with rfl | hx
        · exact ⟨by simp, fun y hy => by simp at hy; omega⟩
        · exact h x hx)
    have rp2 := rows_pure ([] :: [1] :: rs)
    rw [mid_two h1] at s3
    obtain ⟨R2, hR2⟩ : ∃ R2, R2 = ([] :: [1] :: rs : List (List Int)).map rowD := ⟨_, rfl⟩
    rw [← hR2] at ad s3 rp2
    have rep2 : ∀ i : Nat, i < 100 → fRepr [toldD (.int ((i : Int) + 2))] = some (.str (toldD (.int ((i : Int) + 2))).py.shown) := fun i hi => repr_of rfl (sh_told (sh_int (by omega))) (by rw [dep_told]; simp) (by rw [sizeLine_eq, rb_told]; simp)
    have rep3 : fRepr [toldD .non] = some (.str (toldD .non).py.shown) := repr_of rfl (sh_told rfl) (by rw [dep_told]; simp) (by rw [sizeLine_eq, rb_told]; simp)
    cases e : midRow k rs with
    | none =>
      rw [e] at s0 s1 s2 s3 m2 rep1
      simp only [toldD, optD, Option.map] at s0 s1 s2 s3 m2 rep1 rep3
      simp -implicitDefEqProofs [-fRepr_one, -fAdd_tup, s0, s1, s2, s3, m2, rep1, rep3, pm, rp, ad, h7i, h1, sizeLine_eq, rp2, D.noOpq, D.isNon]
    | some i =>
      have hi : i < 0 + (rs.map (hasM k)).length := firstI_lt e
      rw [List.length_map] at hi
      have rep2 := rep2 i (by omega)
      rw [e] at s0 s1 s2 s3 m2 rep1
      simp only [toldD, optD, Option.map] at s0 s1 s2 s3 m2 rep1 rep2
      have ec : ((i + 2 : Nat) : Int) = (i : Int) + 2 := by omega
      rw [ec] at s3
      simp -implicitDefEqProofs [-fRepr_one, -fAdd_tup, s0, s1, s2, s3, m2, rep1, rep2, pm, rp, ad, h7i, h1, sizeLine_eq, rp2, D.noOpq, D.isNon]
  · have h7i : ¬ ((rs.length : Int) < 7 ∧ 1 < k) := fun z => h7 ⟨by omega, z.2⟩
    simp only [toldD] at s0 s1 s2 m2 rep1
    by_cases a1 : (rs.length : Int) < 7
    · have a2 : ¬ 1 < k := fun z => h7i ⟨a1, z⟩
      simp -implicitDefEqProofs [-fRepr_one, -fAdd_tup, s0, s1, s2, m2, rep1, pm, rp, op, a1, a2, sizeLine_eq]
    · simp -implicitDefEqProofs [-fRepr_one, -fAdd_tup, s0, s1, s2, m2, rep1, pm, rp, op, a1, sizeLine_eq]
end K12
set_option maxHeartbeats 4000000
namespace K12
open PySem PySem.Spec PyProof.Rows L2 TQ
theorem v_law_row' (jar : D) (k : Int) (hj : okJar jar) (hk : 1 ≤ k ∧ k ≤ 60) : ∃ r jar', okRow r ∧ okJar jar' ∧ g_f_law_row [jar, .int k] = .ok (rowD r) [jar', .int k] := by
  obtain ⟨d, l, e, r, jar', rfl, rfl, hr, hj'⟩ := (v_law_row jar k hj hk).ex
  exact ⟨r, jar', hr, hj', e⟩
theorem v_row_right' (jar : D) (k : Int) (r : List Int) (hj : okJar jar) (hk : 1 ≤ k ∧ k ≤ 60) (h : okRow r) : ∃ jar', okJar jar' ∧ g_f_law_row_right [jar, .int k, rowD r] = .ok (.bl true) [jar', .int k, rowD r] := by
  obtain ⟨d, l, e, jar', rfl, rfl, hj'⟩ := (v_row_right jar k r hj hk h).ex
  exact ⟨jar', hj', e⟩
def unI (d : D) : List Int := match d with
  | .tup l => l.map fun x => match x with | .int i => i | _ => 0
  | _ => []
theorem unI_row (r : List Int) : unI (rowD r) = r := by
  show (r.map D.int).map (fun x => match x with | .int i => i | _ => 0) = r
  induction r with
  | nil => rfl
  | cons a r ih => rw [List.map_cons, List.map_cons, ih]
theorem flt_rows (p : List Int → Bool) : ∀ rs : List (List Int), (rs.map rowD).filterMap (fun d => if p (unI d) then some d else none) = (rs.filter p).map rowD
  | [] => rfl
  | r :: rs => by
    rw [List.map_cons, List.filterMap_cons, unI_row]
    by_cases h : p r = true
    · rw [if_pos h, List.filter_cons_of_pos h, List.map_cons, flt_rows p rs]
    · rw [if_neg h, List.filter_cons_of_neg h, flt_rows p rs]
theorem cut7 {α : Type} (l : List α) : TQ.cutD l none (some 7) = l.take 7 := by
  unfold TQ.cutD
  rw [HT.sIx_none, show (some (7 : Int)) = some ((7 : Nat) : Int) from rfl, HT.sIx_nat, List.drop_zero, Nat.sub_zero]
  by_cases h : 7 ≤ l.length
  · rw [Nat.min_eq_left h]
  · rw [Nat.min_eq_right (by omega), List.take_length, List.take_of_length_le (by omega)]
def lawI (ns : List Int) (_ : Nat) (s : Sd) : Prop := ∃ jar a b c d e f, okJar jar ∧ s = [some (.frl (intsOf ns)), some jar, a, b, c, d, e, f]
def lawP (d : D) (l : List D) : Prop := d = .bl true
def rowsI (ns : List Int) (k : Int) (x y z w : Option D) (i : Nat) (acc : List D) (s : Sd) : Prop := ∃ jar rs, okJar jar ∧ s = [some (.frl (intsOf ns)), some jar, x, some (.int k), y, z, none, w] ∧ acc = (rs : List (List Int)).map rowD ∧ rs.length = i ∧ ∀ r ∈ rs, okRow r
theorem take_ok {rs : List (List Int)} {p : List Int → Bool} (h : ∀ r ∈ rs, okRow r) : ((rs.filter p).take 7 ++ [[99, 99]]).length ≤ 8 ∧ ∀ r ∈ (rs.filter p).take 7 ++ [[99, 99]], okRow r := by
  refine ⟨by simp; omega, fun r hr => ?_⟩
  rcases List.mem_append.mp hr with hr | hr
  · exact h r (List.mem_filter.mp (List.mem_of_mem_take hr)).1
  · have : r = [99, 99] := by simpa using hr
    subst this
    exact ⟨by simp, fun x hx => by simp at hx; omega⟩
theorem v_pool' (ns : List Int) (hl : ns.length ≤ 63) : ∃ jar0, g_f_law_pool [.frl (intsOf ns)] = .ok jar0 [.frl (intsOf ns)] ∧ okJar jar0 := by
  obtain ⟨jar0, l0, e0, hj0, rfl⟩ := v_pool ns hl
  exact ⟨jar0, e0, hj0⟩
theorem v_law (ns : List Int) (hl : ns.length ≤ 63) : ∃ d l, g_law [.frl (intsOf ns)] = .ok d l ∧ lawP d l := by
  obtain ⟨jar0, e0, hj0⟩ : ∃ jar0, g_f_law_pool [.frl (intsOf ns)] = .ok jar0 [.frl (intsOf ns)] ∧ okJar jar0 := v_pool' ns hl
  have ok24 : okR 24 = true := okR_of (by omega)
  obtain ⟨lj0, rfl⟩ := jar_lst hj0
  rw [← H_iff, show g_law = fnM 8 1 [0] _ from rfl, x_fn (by rfl)]
  simp -implicitDefEqProofs [e0, ints_pure, ok24]
  refine for_run (lawI ns) (l := intsD 0 24) (by simp) (fun _ _ _ => rfl) ⟨_, _, _, _, _, _, _, hj0, rfl⟩ (fun i hi s hs => ?_) (fun s hs => ?_)
  · obtain ⟨jar, a, b, c, d, e, f, hj, rfl⟩ := hs
    obtain ⟨k, jar1, hk1, hk2, ek, hj1⟩ := v_qg_k jar hj
    have hk : 1 ≤ k ∧ k ≤ 60 := ⟨hk1, hk2⟩
    obtain ⟨many, jar2, hm, em, hj2⟩ := v_one jar1 [0, 1, 2, 4, 8] hj1 (by simp) (by simp)
    obtain ⟨lj, rfl⟩ := jar_lst hj
    obtain ⟨lj1, rfl⟩ := jar_lst hj1
    obtain ⟨lj2, rfl⟩ := jar_lst hj2
    simp only [List.mem_cons, List.not_mem_nil, or_false] at hm
    obtain ⟨m, rfl⟩ : ∃ m : Nat, many = (m : Int) := ⟨many.toNat, by omega⟩
    have hm8 : m ≤ 8 := by omega
    have okm : okR (m : Int) = true := okR_of (by omega)
    simp only [intsOf, List.map] at em
    simp -implicitDefEqProofs [ek, em, okm]
    refine lc_run (rowsI ns k _ _ _ _) (l := intsD 0 m) (by simp) (fun _ _ _ _ => rfl) ⟨_, [], hj2, rfl, rfl, rfl, fun r hr => by cases hr⟩ (fun i hi acc s hs => ?_) (fun acc s hs => ?_)
    · obtain ⟨jar, rs, hj, rfl, rfl, hlr, hr⟩ := hs
      obtain ⟨r, jar', hr', hj', er⟩ := v_law_row' jar k hj hk
      obtain ⟨la, rfl⟩ := jar_lst hj
      obtain ⟨lb, rfl⟩ := jar_lst hj'
      rw [intsD_len] at hi
      simp -implicitDefEqProofs [er]
      refine ⟨by rw [sizeLine_eq]; omega, .lst lb, rs ++ [r], hj', rfl, by simp, by simp [hlr], fun x hx => ?_⟩
      rcases List.mem_append.mp hx with hx | hx
      · exact hr x hx
      · have : x = r := by simpa using hx
        rw [this]; exact hr'
    · obtain ⟨jar, rs, hj, rfl, rfl, hlr, hr⟩ := hs
      obtain ⟨r, jar', hr', hj', er⟩ := v_law_row' jar k hj hk
      obtain ⟨jar'', hj'', err⟩ := v_row_right' jar' k r hj' hk hr'
      have hl8 : rs.length ≤ 8 := by omega
      have es := v_rows_right jar'' k rs hj'' hk hl8 hr
      obtain ⟨la, rfl⟩ := jar_lst hj
      obtain ⟨lb, rfl⟩ := jar_lst hj'
      obtain ⟨lc, rfl⟩ := jar_lst hj''
      have rp := rows_pure rs
      simp -implicitDefEqProofs [er, err, es, rp]
      refine lc_fm (l := rs.map rowD) (fun d => if (!hasM k (unI d)) = true then some d else none) (by simp) rfl (by rw [List.length_map, sizeLine_eq]; omega) (fun d hd => ?_) ?_
      · obtain ⟨r2, hr2, rfl⟩ := List.mem_map.mp hd
        have em2 := v_qt_is_middle k r2 (hr r2 hr2)
        by_cases hM : hasM k r2 = true
        · simp -implicitDefEqProofs [em2, hM, unI_row, rp]
        · rw [Bool.not_eq_true] at hM
          simp -implicitDefEqProofs [em2, hM, unI_row, rp]
      · rw [flt_rows (fun r => !hasM k r)]
        obtain ⟨t1, t2⟩ := take_ok (p := fun r => !hasM k r) hr
        have es2 := v_rows_right (.lst lc) k _ hj'' hk t1 t2
        generalize hfl : (rs.filter fun r => !hasM k r) = fl at es2 t1 t2
        have c7 : TQ.cutD (fl.map rowD) none (some 7) = (fl.take 7).map rowD := by rw [cut7, List.map_take]
        have p7 := rows_pure (fl.take 7)
        have pf := rows_pure fl
        have ad : fAdd [.lst ((fl.take 7).map rowD), .lst [.tup [.int 99, .int 99]]] = some (.lst ((fl.take 7 ++ [[99, 99]]).map rowD)) := by
          rw [fAdd_lst, if_pos]
          · rw [List.map_append]; rfl
          · rw [p7]
            unfold smallB
            simp [sizeLine_eq]
            omega
        have pq := rows_pure (fl.take 7 ++ [[99, 99]])
        obtain ⟨R, hR⟩ : ∃ R, R = (fl.take 7 ++ [[99, 99]] : List (List Int)).map rowD := ⟨_, rfl⟩
        rw [← hR] at ad es2 pq
        obtain ⟨R7, hR7⟩ : ∃ R7, R7 = (fl.take 7).map rowD := ⟨_, rfl⟩
        rw [← hR7] at ad c7 p7
        simp -implicitDefEqProofs [-fAdd_lst, c7, p7, pf, ad, es2, pq]
        exact ⟨_, _, _, _, _, _, _, hj'', rfl⟩
  · obtain ⟨jar, a, b, c, d, e, f, hj, rfl⟩ := hs
    obtain ⟨lj, rfl⟩ := jar_lst hj
    simp -implicitDefEqProofs [v_bounds, ints_pure]
    rfl
theorem value (ns : List Int) (h : ns.length ≤ 63) (hb : ∀ z ∈ ns, Builtin.Int.intBits z ≤ 1048576) : ∃ dl, g_law [.frl (intsOf ns)] = .ok (.bl true) dl := by
  obtain ⟨d, l, e, hp⟩ := v_law ns h
  have hp : d = .bl true := hp
  subst hp
  exact ⟨l, e⟩
end K12
set_option maxHeartbeats 0
namespace K12
open PySem PySem.Spec PyProof.Rows L2 TQ
abbrev R : PySem.W.OpenRow := PySem.W.OpenLaw.row PySem.Challenge.rw_toldquiet_k12_the_middle_row_and_sides
abbrev tp (i : Nat) : Stmt := PySem.Challenge.pw_toldquiet_k12_the_middle_row_and_sides.main.body.getD i (.Pass ⟨0, 0, 0, 0⟩)
def dd (x : Str) (i : Nat) : He.DefD := ⟨(x, none), x, x, defArgs (tp i), defBody (tp i), defScope (tp i), [], []⟩
def fn : List He.DefD := [dd "_law_pool" 36, dd "_law_qt_is_middle" 39, dd "_law_qt_middle_row" 40, dd "_law_qt_sides" 41, dd "_law_qh_heard" 43, dd "is_number" 21, dd "is_between" 22, dd "made_k" 24, dd "is_tuple_of" 23, dd "wrong_row" 25, dd "is_row" 26, dd "made_rows" 28, dd "is_big" 31, dd "gap_pairs" 30, dd "has_middle" 32, dd "middle_row" 33, dd "_law_middle" 46, dd "made_row" 27, dd "sides" 34, dd "_law_sides" 45, dd "_law_bounds_right" 49, dd "_law_take" 37, dd "_law_one" 38, dd "_law_qg_k" 42, dd "_law_rows_right" 48, dd "_law_row" 44, dd "_law_row_right" 47, dd "law" 50]
def fa : List He.Fa := [.free "range", .free "len", .free "int", .free "tuple", .free "isinstance", .free "bool", .int "MOST_K" 60, .int "MOST_GAPS" 24, .int "MOST_GAP" 99, .int "MOST_ROWS" 8, .free "any", .free "enumerate", .glo "_law_qh_heard", .free "max", .free "repr", .glo "_law_pool", .glo "_law_qt_is_middle", .glo "_law_qt_middle_row", .glo "_law_qt_sides", .glo "is_number", .glo "is_between", .glo "made_k", .glo "is_tuple_of", .glo "wrong_row", .glo "is_row", .glo "made_rows", .glo "is_big", .glo "gap_pairs", .glo "has_middle", .glo "middle_row", .glo "_law_middle", .glo "made_row", .glo "sides", .glo "_law_sides", .glo "_law_bounds_right", .glo "_law_take", .glo "_law_one", .glo "_law_qg_k", .glo "_law_rows_right", .glo "_law_row", .glo "_law_row_right", .glo "law"]
def tf : List He.Defn := [("_law_middle", none), ("_law_sides", none), ("_law_rows_right", none), ("_law_row_right", none)]
def names0 : List Str := ["Refused", "BadK", "BadRow", "BadRows", "NoDots", "BadStart", "BadMany", "BadView", "BadTs", "NoFit", "Blank", "Shared", "Thin", "BadWeights", "NoRoom", "MOST_K", "MOST_GAPS", "MOST_GAP", "MOST_ROWS", "is_number", "is_between", "is_tuple_of", "made_k", "wrong_row", "is_row", "made_row", "made_rows", "gap_pairs", "is_big", "has_middle"]
def names1 : List Str := ["middle_row", "sides", "_law_pool", "_law_take", "_law_one", "_law_qt_is_middle", "_law_qt_middle_row", "_law_qt_sides", "_law_qg_k", "_law_qh_heard", "_law_row", "_law_sides", "_law_middle", "_law_row_right", "_law_rows_right", "_law_bounds_right"]
def names : List Str := names0 ++ names1
abbrev hk : PySem.W.Hook := He.hookX 4 fa fn [] tf (tabU tf)
def ob (s : PySem.W.SharedT) : He.AlX := He.obsX 4 fa fn [] tf (tabU tf) (HandSHeadRun.getT s)
theorem ob_eq (s : PySem.W.SharedT) : ob s = hk.obs s.abs := He.obsX_eq (HandSHeadRun.getT_eq s)
theorem run (w : World) : HandSHeadRun.RunEq R (PySem.W.view R.prog [50]) hk ob 60000 names w := by
  intro os
  kernel_rfl
end K12
set_option maxHeartbeats 0
namespace K12
open PySem PySem.Spec PyProof.Rows L2 TQ
theorem sc_f_law_pool : FnScope ["script", "digits", "stirred", "at", "cell"] ["script"] (defScope (tp 36)) := ⟨rfl, rfl, rfl, by decide +kernel, rfl, by decide +kernel, by decide +kernel⟩
theorem sc_f_law_qt_is_middle : FnScope ["k", "row", "at"] ["k", "row"] (defScope (tp 39)) := ⟨rfl, rfl, rfl, by decide +kernel, rfl, by decide +kernel, by decide +kernel⟩
theorem sc_f_law_qt_middle_row : FnScope ["k", "rows", "some", "at"] ["k", "rows"] (defScope (tp 40)) := ⟨rfl, rfl, rfl, by decide +kernel, rfl, by decide +kernel, by decide +kernel⟩
theorem sc_f_law_qt_sides : FnScope ["k", "row", "made", "at", "left", "right"] ["k", "row"] (defScope (tp 41)) := ⟨rfl, rfl, rfl, by decide +kernel, rfl, by decide +kernel, by decide +kernel⟩
theorem sc_f_law_qh_heard : FnScope ["call", "odd", "some", "name", "is_one"] ["call"] (defScope (tp 43)) := ⟨rfl, rfl, rfl, by decide +kernel, rfl, by decide +kernel, by decide +kernel⟩
theorem sc_is_number : FnScope ["thing"] ["thing"] (defScope (tp 21)) := ⟨rfl, rfl, rfl, by decide +kernel, rfl, by decide +kernel, by decide +kernel⟩
theorem sc_is_between : FnScope ["thing", "low", "high"] ["thing", "low", "high"] (defScope (tp 22)) := ⟨rfl, rfl, rfl, by decide +kernel, rfl, by decide +kernel, by decide +kernel⟩
theorem sc_made_k : FnScope ["thing"] ["thing"] (defScope (tp 24)) := ⟨rfl, rfl, rfl, by decide +kernel, rfl, by decide +kernel, by decide +kernel⟩
theorem sc_is_tuple_of : FnScope ["thing", "low", "high"] ["thing", "low", "high"] (defScope (tp 23)) := ⟨rfl, rfl, rfl, by decide +kernel, rfl, by decide +kernel, by decide +kernel⟩
theorem sc_wrong_row : FnScope ["thing", "at"] ["thing"] (defScope (tp 25)) := ⟨rfl, rfl, rfl, by decide +kernel, rfl, by decide +kernel, by decide +kernel⟩
theorem sc_is_row : FnScope ["thing"] ["thing"] (defScope (tp 26)) := ⟨rfl, rfl, rfl, by decide +kernel, rfl, by decide +kernel, by decide +kernel⟩
theorem sc_made_rows : FnScope ["thing", "at"] ["thing"] (defScope (tp 28)) := ⟨rfl, rfl, rfl, by decide +kernel, rfl, by decide +kernel, by decide +kernel⟩
theorem sc_is_big : FnScope ["k", "gap"] ["k", "gap"] (defScope (tp 31)) := ⟨rfl, rfl, rfl, by decide +kernel, rfl, by decide +kernel, by decide +kernel⟩
theorem sc_gap_pairs : FnScope ["row", "at"] ["row"] (defScope (tp 30)) := ⟨rfl, rfl, rfl, by decide +kernel, rfl, by decide +kernel, by decide +kernel⟩
theorem sc_has_middle : FnScope ["k", "row", "left", "right"] ["k", "row"] (defScope (tp 32)) := ⟨rfl, rfl, rfl, by decide +kernel, rfl, by decide +kernel, by decide +kernel⟩
theorem sc_middle_row : FnScope ["k", "rows", "at", "row"] ["k", "rows"] (defScope (tp 33)) := ⟨rfl, rfl, rfl, by decide +kernel, rfl, by decide +kernel, by decide +kernel⟩
theorem sc_f_law_middle : FnScope ["k", "rows"] ["k", "rows"] (defScope (tp 46)) := ⟨rfl, rfl, rfl, by decide +kernel, rfl, by decide +kernel, by decide +kernel⟩
theorem sc_made_row : FnScope ["thing", "wrong"] ["thing"] (defScope (tp 27)) := ⟨rfl, rfl, rfl, by decide +kernel, rfl, by decide +kernel, by decide +kernel⟩
theorem sc_sides : FnScope ["k", "row", "before", "behind", "left", "right"] ["k", "row"] (defScope (tp 34)) := ⟨rfl, rfl, rfl, by decide +kernel, rfl, by decide +kernel, by decide +kernel⟩
theorem sc_f_law_sides : FnScope ["k", "row"] ["k", "row"] (defScope (tp 45)) := ⟨rfl, rfl, rfl, by decide +kernel, rfl, by decide +kernel, by decide +kernel⟩
theorem sc_f_law_bounds_right : FnScope ["asks", "k", "row", "place", "pair"] [] (defScope (tp 49)) := ⟨rfl, rfl, rfl, by decide +kernel, rfl, by decide +kernel, by decide +kernel⟩
theorem sc_f_law_take : FnScope ["jar", "many", "found"] ["jar", "many"] (defScope (tp 37)) := ⟨rfl, rfl, rfl, by decide +kernel, rfl, by decide +kernel, by decide +kernel⟩
theorem sc_f_law_one : FnScope ["jar", "things"] ["jar", "things"] (defScope (tp 38)) := ⟨rfl, rfl, rfl, by decide +kernel, rfl, by decide +kernel, by decide +kernel⟩
theorem sc_f_law_qg_k : FnScope ["jar"] ["jar"] (defScope (tp 42)) := ⟨rfl, rfl, rfl, by decide +kernel, rfl, by decide +kernel, by decide +kernel⟩
theorem sc_f_law_rows_right : FnScope ["jar", "k", "rows", "owed", "said"] ["jar", "k", "rows"] (defScope (tp 48)) := ⟨rfl, rfl, rfl, by decide +kernel, rfl, by decide +kernel, by decide +kernel⟩
theorem sc_f_law_row : FnScope ["jar", "k", "many", "half", "some", "gap", "at"] ["jar", "k"] (defScope (tp 44)) := ⟨rfl, rfl, rfl, by decide +kernel, rfl, by decide +kernel, by decide +kernel⟩
theorem sc_f_law_row_right : FnScope ["jar", "k", "row", "owed", "at", "said"] ["jar", "k", "row"] (defScope (tp 47)) := ⟨rfl, rfl, rfl, by decide +kernel, rfl, by decide +kernel, by decide +kernel⟩
theorem sc_law : FnScope ["script", "jar", "go", "k", "rows", "plain", "at", "row"] ["script"] (defScope (tp 50)) := ⟨rfl, rfl, rfl, by decide +kernel, rfl, by decide +kernel, by decide +kernel⟩
section
variable {P : Program} {w : World} {K : PySem.W.Frag} {mg : Str → Option Value} {base h : Heap}
theorem ok_f_law_pool (c : Hd fa fn tf w K h mg) (tb : ∀ p ∈ tf, LamX.TabB base mg (He.cT K p).1 (He.cT K p).2) : ∃ fd, Fn K "_law_pool" "_law_pool" (tp 36) (He.ga K "_law_pool") fd (.ref (He.codeOf K ("_law_pool", none))) ∧ FnG (TTab tf K) P w K mg base 1 (He.ga K "_law_pool") fd ["script"] 1 false g_f_law_pool := by
  obtain ⟨fd, F⟩ := c.def_ (st := tp 36) 0
  exact ⟨fd, F, fn_ok (kp := [0]) F sc_f_law_pool (by decide) (fun A outer s H E hr hgd =>
      (sss_cons (ss_asg (so_tup (sa_cons so_int (sa_cons so_int sa_nil)) (Len.le (len_cons (len_cons len_nil)) (by rw [sizeLine_eq]; decide))) (sg_tup rfl (sgs_cons (sg_nm 1 sc_f_law_pool.nd) (sgs_cons (sg_nm 2 sc_f_law_pool.nd) sgs_nil))))
      (sss_cons (ss_for (passes_of rfl) rfl (si_range1 (js := []) rfl (c.free 0) (sa_cons (so_bi call_len rn_len rfl (c.free 1) boot_len (sa_cons (so_nm 0) sa_nil)) sa_nil) (len_cons len_nil)) (sg_nm 3 sc_f_law_pool.nd)
      (sss_cons (ss_set 4 sc_f_law_pool.nd (so_if (st_cmp op_ge rn_ge (so_ix ix_seq rn_ix (so_nm 0) (so_nm 3) (fun _ _ => rfl)) so_int (nomark _)) (so_ty call_int1 rn_toint rfl (c.free 2) boot_int (sa_cons (so_ix ix_seq rn_ix (so_nm 0) (so_nm 3) (fun _ _ => rfl)) sa_nil)) (so_ty call_int1 rn_toint rfl (c.free 2) boot_int (sa_cons (so_bin op_sub rn_sub (so_un un_neg rn_neg so_int) (so_ix ix_seq rn_ix (so_nm 0) (so_nm 3) (fun _ _ => rfl))) sa_nil))))
      (sss_cons (ss_set 2 sc_f_law_pool.nd (so_bin op_mod rn_mod (so_ty call_int1 rn_toint rfl (c.free 2) boot_int (sa_cons (so_bin op_addA rn_add (so_bin op_addA rn_add (so_bin op_mulA rn_mul (so_nm 2) so_int) (so_bin op_mod rn_mod (so_nm 4) so_int)) so_int) sa_nil)) so_int))
      (sss_one (ss_set 1 sc_f_law_pool.nd (so_if (st_bool (sw_and (st_cmp op_ge rn_ge (so_nm 4) (so_bin op_pow rn_pow so_int so_int) (nomark _)) (sw_and1 (st_cmp op_lt rn_lt (so_nm 1) (so_bin op_pow rn_pow so_int so_int) (nomark _))))) (so_ty call_int1 rn_toint rfl (c.free 2) boot_int (sa_cons (so_bin op_addA rn_add (so_bin op_mulA rn_mul (so_nm 1) (so_bin op_pow rn_pow so_int so_int)) (so_bin op_mod rn_mod (so_nm 4) (so_bin op_pow rn_pow so_int so_int))) sa_nil)) (so_nm 1)))))))
      (sss_one (ss_ret (so_lst (sa_cons (so_nm 1) (sa_cons (so_nm 2) (sa_cons so_int sa_nil))) (Len.le (len_cons (len_cons (len_cons len_nil))) (by rw [sizeLine_eq]; decide)))))))) (fun _ _ => rfl)⟩
theorem cal_f_law_pool (c : Hd fa fn tf w K h mg) (tb : ∀ p ∈ tf, LamX.TabB base mg (He.cT K p).1 (He.cT K p).2) : Cal (TTab tf K) P w K mg base 1 "_law_pool" 1 false g_f_law_pool := by
  obtain ⟨fd, F, G⟩ := ok_f_law_pool (P := P) (w := w) c tb
  exact G.cal (c.glo 15) F.kp (F.binds fun _ _ _ _ _ _ us hl => match us, hl with | [_], _ => rfl)
theorem ok_f_law_qt_is_middle (c : Hd fa fn tf w K h mg) (tb : ∀ p ∈ tf, LamX.TabB base mg (He.cT K p).1 (He.cT K p).2) : ∃ fd, Fn K "_law_qt_is_middle" "_law_qt_is_middle" (tp 39) (He.ga K "_law_qt_is_middle") fd (.ref (He.codeOf K ("_law_qt_is_middle", none))) ∧ FnG (TTab tf K) P w K mg base 1 (He.ga K "_law_qt_is_middle") fd ["k", "row"] 2 false g_f_law_qt_is_middle := by
  obtain ⟨fd, F⟩ := c.def_ (st := tp 39) 1
  exact ⟨fd, F, fn_ok (kp := [0, 1]) F sc_f_law_qt_is_middle (by decide) (fun A outer s H E hr hgd =>
      (sss_one (ss_ret (so_cmp (op_neA (Room.u64 hr)) rn_neA (so_lc (n := 3) (own := [("at", 2)]) rfl sc_f_law_qt_is_middle.nd rfl (si_range1 (js := []) rfl (c.free 0) (sa_cons (so_bi call_len rn_len rfl (c.free 1) boot_len (sa_cons (so_nm 1) sa_nil)) sa_nil) (len_cons len_nil)) (blkOk_by (by kernel_rfl)) (by decide) (fun _ _ _ _ _ => (sg_nm 2 sc_f_law_qt_is_middle.nd)) (fun _ _ _ _ _ => (sts_one (st_bool (sw_and (st_cmp op_gt rn_gt (so_bin op_mulA rn_mul so_int (so_ix ix_seq rn_ix (so_nm 1) (so_nm 2) (fun _ _ => rfl))) (so_nm 0) (nomark _)) (sw_and1 (st_cmp op_gt rn_gt (so_bin op_mulA rn_mul so_int (so_ix ix_seq rn_ix (so_nm 1) (so_bin op_sub rn_sub (so_nm 2) so_int) (fun _ _ => rfl))) (so_nm 0) (nomark _))))))) (fun _ _ _ _ _ => (so_nm 2))) (so_lst sa_nil (Len.le len_nil (by rw [sizeLine_eq]; decide))) (nomark _))))) (fun _ _ => rfl)⟩
theorem cal_f_law_qt_is_middle (c : Hd fa fn tf w K h mg) (tb : ∀ p ∈ tf, LamX.TabB base mg (He.cT K p).1 (He.cT K p).2) : Cal (TTab tf K) P w K mg base 1 "_law_qt_is_middle" 2 false g_f_law_qt_is_middle := by
  obtain ⟨fd, F, G⟩ := ok_f_law_qt_is_middle (P := P) (w := w) c tb
  exact G.cal (c.glo 16) F.kp (F.binds fun _ _ _ _ _ _ us hl => match us, hl with | [_, _], _ => rfl)
theorem ok_f_law_qt_middle_row (c : Hd fa fn tf w K h mg) (tb : ∀ p ∈ tf, LamX.TabB base mg (He.cT K p).1 (He.cT K p).2) : ∃ fd, Fn K "_law_qt_middle_row" "_law_qt_middle_row" (tp 40) (He.ga K "_law_qt_middle_row") fd (.ref (He.codeOf K ("_law_qt_middle_row", none))) ∧ FnG (TTab tf K) P w K mg base 2 (He.ga K "_law_qt_middle_row") fd ["k", "rows"] 2 false g_f_law_qt_middle_row := by
  obtain ⟨fd, F⟩ := c.def_ (st := tp 40) 2
  exact ⟨fd, F, fn_ok (kp := [0, 1]) F sc_f_law_qt_middle_row (by decide) (fun A outer s H E hr hgd =>
      (sss_cons (ss_setLc 2 (n := 4) (own := [("at", 3)]) rfl sc_f_law_qt_middle_row.nd rfl rfl rfl (by rfl) (si_range1 (js := []) rfl (c.free 0) (sa_cons (so_bi call_len rn_len rfl (c.free 1) boot_len (sa_cons (so_nm 1) sa_nil)) sa_nil) (len_cons len_nil)) (blkOk_by (by kernel_rfl)) (by decide) (fun _ _ _ _ _ => (sg_nm 3 sc_f_law_qt_middle_row.nd)) (fun _ _ _ _ _ => (sts_one (st_val (so_call (cal_f_law_qt_is_middle c tb) hr (by decide) (fun z => by cases z) LamX.takes0 rfl (sa_cons (so_nm 0) (sa_cons (so_ix ix_seq rn_ix (so_nm 1) (so_nm 3) (fun _ _ => rfl)) sa_nil)) (len_cons (len_cons len_nil)))))) (fun _ _ _ _ _ => (so_nm 3)))
      (sss_one (ss_ret (so_if (st_cmp (op_neA (Room.u64 hr)) rn_neA (so_nm 2) (so_lst sa_nil (Len.le len_nil (by rw [sizeLine_eq]; decide))) (nomark _)) (so_ix ix_seq rn_ix (so_nm 2) so_int (fun _ _ => rfl)) so_non))))) (fun _ _ => rfl)⟩
theorem cal_f_law_qt_middle_row (c : Hd fa fn tf w K h mg) (tb : ∀ p ∈ tf, LamX.TabB base mg (He.cT K p).1 (He.cT K p).2) : Cal (TTab tf K) P w K mg base 2 "_law_qt_middle_row" 2 false g_f_law_qt_middle_row := by
  obtain ⟨fd, F, G⟩ := ok_f_law_qt_middle_row (P := P) (w := w) c tb
  exact G.cal (c.glo 17) F.kp (F.binds fun _ _ _ _ _ _ us hl => match us, hl with | [_, _], _ => rfl)
theorem ok_f_law_qt_sides (c : Hd fa fn tf w K h mg) (tb : ∀ p ∈ tf, LamX.TabB base mg (He.cT K p).1 (He.cT K p).2) : ∃ fd, Fn K "_law_qt_sides" "_law_qt_sides" (tp 41) (He.ga K "_law_qt_sides") fd (.ref (He.codeOf K ("_law_qt_sides", none))) ∧ FnG (TTab tf K) P w K mg base 1 (He.ga K "_law_qt_sides") fd ["k", "row"] 2 false g_f_law_qt_sides := by
  obtain ⟨fd, F⟩ := c.def_ (st := tp 41) 3
  exact ⟨fd, F, fn_ok (kp := [0, 1]) F sc_f_law_qt_sides (by decide) (fun A outer s H E hr hgd =>
      (sss_cons (ss_set 2 sc_f_law_qt_sides.nd (so_lst (sa_cons so_int (sa_cons so_int sa_nil)) (Len.le (len_cons (len_cons len_nil)) (by rw [sizeLine_eq]; decide))))
      (sss_cons (ss_for (passes_of rfl) rfl (si_range1 (js := []) rfl (c.free 0) (sa_cons (so_bi call_len rn_len rfl (c.free 1) boot_len (sa_cons (so_nm 1) sa_nil)) sa_nil) (len_cons len_nil)) (sg_nm 3 sc_f_law_qt_sides.nd)
      (sss_cons (ss_par 4 5 rfl sc_f_law_qt_sides.nd (sa_cons (so_ix ix_seq rn_ix (so_nm 1) (so_bin op_sub rn_sub (so_nm 3) so_int) (fun _ _ => rfl)) (sa_cons (so_ix ix_seq rn_ix (so_nm 1) (so_nm 3) (fun _ _ => rfl)) sa_nil)))
      (sss_cons (ss_if (st_bool (sw_and (st_cmp op_gt rn_gt (so_bin op_mulA rn_mul so_int (so_nm 4)) (so_nm 0) (nomark _)) (sw_and1 (st_cmp op_le rn_le (so_bin op_mulA rn_mul so_int (so_nm 5)) (so_nm 0) (nomark _))))) (sss_one (ss_store 2 (so_if (st_cmp op_gt rn_gt (so_bin op_sub rn_sub (so_bin op_addA rn_add (so_nm 4) (so_nm 5)) (so_nm 0)) (so_ix ix_seq rn_ix (so_nm 2) so_int (fun _ _ => rfl)) (nomark _)) (so_bin op_sub rn_sub (so_bin op_addA rn_add (so_nm 4) (so_nm 5)) (so_nm 0)) (so_ix ix_seq rn_ix (so_nm 2) so_int (fun _ _ => rfl))) so_int)) sss_nil)
      (sss_one (ss_if (st_bool (sw_and (st_cmp op_gt rn_gt (so_bin op_mulA rn_mul so_int (so_nm 5)) (so_nm 0) (nomark _)) (sw_and1 (st_cmp op_le rn_le (so_bin op_mulA rn_mul so_int (so_nm 4)) (so_nm 0) (nomark _))))) (sss_one (ss_store 2 (so_if (st_cmp op_gt rn_gt (so_bin op_sub rn_sub (so_bin op_addA rn_add (so_nm 4) (so_nm 5)) (so_nm 0)) (so_ix ix_seq rn_ix (so_nm 2) so_int (fun _ _ => rfl)) (nomark _)) (so_bin op_sub rn_sub (so_bin op_addA rn_add (so_nm 4) (so_nm 5)) (so_nm 0)) (so_ix ix_seq rn_ix (so_nm 2) so_int (fun _ _ => rfl))) so_int)) sss_nil)))))
      (sss_one (ss_ret (so_ty call_tuple_of rn_tuple rfl (c.free 3) boot_tuple (sa_cons (so_nm 2) sa_nil))))))) (fun _ _ => rfl)⟩
theorem cal_f_law_qt_sides (c : Hd fa fn tf w K h mg) (tb : ∀ p ∈ tf, LamX.TabB base mg (He.cT K p).1 (He.cT K p).2) : Cal (TTab tf K) P w K mg base 1 "_law_qt_sides" 2 false g_f_law_qt_sides := by
  obtain ⟨fd, F, G⟩ := ok_f_law_qt_sides (P := P) (w := w) c tb
  exact G.cal (c.glo 18) F.kp (F.binds fun _ _ _ _ _ _ us hl => match us, hl with | [_, _], _ => rfl)
theorem ok_is_number (c : Hd fa fn tf w K h mg) (tb : ∀ p ∈ tf, LamX.TabB base mg (He.cT K p).1 (He.cT K p).2) : ∃ fd, Fn K "is_number" "is_number" (tp 21) (He.ga K "is_number") fd (.ref (He.codeOf K ("is_number", none))) ∧ FnG (TTab tf K) P w K mg base 1 (He.ga K "is_number") fd ["thing"] 1 false g_is_number := by
  obtain ⟨fd, F⟩ := c.def_ (st := tp 21) 5
  exact ⟨fd, F, fn_ok (kp := [0]) F sc_is_number (by decide) (fun A outer s H E hr hgd =>
      (sss_one (ss_ret (so_and (so_bi call_isi rn_isi rfl (c.free 4) boot_isinstance (sa_cons (so_nm 0) (sa_cons (so_bt rfl (c.free 2) boot_int) sa_nil))) (so_one (so_not (so_bi call_isi rn_isi rfl (c.free 4) boot_isinstance (sa_cons (so_nm 0) (sa_cons (so_bt rfl (c.free 5) boot_bool) sa_nil))))))))) (fun _ _ => rfl)⟩
theorem cal_is_number (c : Hd fa fn tf w K h mg) (tb : ∀ p ∈ tf, LamX.TabB base mg (He.cT K p).1 (He.cT K p).2) : Cal (TTab tf K) P w K mg base 1 "is_number" 1 false g_is_number := by
  obtain ⟨fd, F, G⟩ := ok_is_number (P := P) (w := w) c tb
  exact G.cal (c.glo 19) F.kp (F.binds fun _ _ _ _ _ _ us hl => match us, hl with | [_], _ => rfl)
theorem ok_is_between (c : Hd fa fn tf w K h mg) (tb : ∀ p ∈ tf, LamX.TabB base mg (He.cT K p).1 (He.cT K p).2) : ∃ fd, Fn K "is_between" "is_between" (tp 22) (He.ga K "is_between") fd (.ref (He.codeOf K ("is_between", none))) ∧ FnG (TTab tf K) P w K mg base 2 (He.ga K "is_between") fd ["thing", "low", "high"] 3 false g_is_between := by
  obtain ⟨fd, F⟩ := c.def_ (st := tp 22) 6
  exact ⟨fd, F, fn_ok (kp := [0, 1, 2]) F sc_is_between (by decide) (fun A outer s H E hr hgd =>
      (sss_one (ss_ret (so_and (so_call (cal_is_number c tb) hr (by decide) (fun z => by cases z) takesC rfl (sa_cons (so_nm 0) sa_nil) (len_cons len_nil)) (so_one (so_chain (f := fun i j => decide (i ≤ j)) (g := fun i j => decide (i ≤ j)) op_le op_le (so_nm 1) (so_nm 0) (so_nm 2) rfl)))))) (fun _ _ => rfl)⟩
theorem cal_is_between (c : Hd fa fn tf w K h mg) (tb : ∀ p ∈ tf, LamX.TabB base mg (He.cT K p).1 (He.cT K p).2) : Cal (TTab tf K) P w K mg base 2 "is_between" 3 false g_is_between := by
  obtain ⟨fd, F, G⟩ := ok_is_between (P := P) (w := w) c tb
  exact G.cal (c.glo 20) F.kp (F.binds fun _ _ _ _ _ _ us hl => match us, hl with | [_, _, _], _ => rfl)
theorem ok_made_k (c : Hd fa fn tf w K h mg) (tb : ∀ p ∈ tf, LamX.TabB base mg (He.cT K p).1 (He.cT K p).2) : ∃ fd, Fn K "made_k" "made_k" (tp 24) (He.ga K "made_k") fd (.ref (He.codeOf K ("made_k", none))) ∧ FnG (TTab tf K) P w K mg base 3 (He.ga K "made_k") fd ["thing"] 1 false g_made_k := by
  obtain ⟨fd, F⟩ := c.def_ (st := tp 24) 7
  exact ⟨fd, F, fn_ok (kp := [0]) F sc_made_k (by decide) (fun A outer s H E hr hgd =>
      (sss_cons (ss_if (st_not (st_val (so_call (cal_is_between c tb) hr (by decide) (fun z => by cases z) takesC rfl (sa_cons (so_nm 0) (sa_cons so_int (sa_cons (so_gint rfl (c.int 6)) sa_nil))) (len_cons (len_cons (len_cons len_nil)))))) (sss_one ss_stuck) sss_nil)
      (sss_one (ss_ret (so_nm 0))))) (fun _ _ => rfl)⟩
theorem cal_made_k (c : Hd fa fn tf w K h mg) (tb : ∀ p ∈ tf, LamX.TabB base mg (He.cT K p).1 (He.cT K p).2) : Cal (TTab tf K) P w K mg base 3 "made_k" 1 false g_made_k := by
  obtain ⟨fd, F, G⟩ := ok_made_k (P := P) (w := w) c tb
  exact G.cal (c.glo 21) F.kp (F.binds fun _ _ _ _ _ _ us hl => match us, hl with | [_], _ => rfl)
theorem ok_is_tuple_of (c : Hd fa fn tf w K h mg) (tb : ∀ p ∈ tf, LamX.TabB base mg (He.cT K p).1 (He.cT K p).2) : ∃ fd, Fn K "is_tuple_of" "is_tuple_of" (tp 23) (He.ga K "is_tuple_of") fd (.ref (He.codeOf K ("is_tuple_of", none))) ∧ FnG (TTab tf K) P w K mg base 1 (He.ga K "is_tuple_of") fd ["thing", "low", "high"] 3 false g_is_tuple_of := by
  obtain ⟨fd, F⟩ := c.def_ (st := tp 23) 8
  exact ⟨fd, F, fn_ok (kp := [0, 1, 2]) F sc_is_tuple_of (by decide) (fun A outer s H E hr hgd =>
      (sss_one (ss_ret (so_and (so_bi call_isi rn_isi rfl (c.free 4) boot_isinstance (sa_cons (so_nm 0) (sa_cons (so_bt rfl (c.free 3) boot_tuple) sa_nil))) (so_one (so_chain (f := fun i j => decide (i ≤ j)) (g := fun i j => decide (i ≤ j)) op_le op_le (so_nm 1) (so_bi call_len rn_len rfl (c.free 1) boot_len (sa_cons (so_nm 0) sa_nil)) (so_nm 2) rfl)))))) (fun _ _ => rfl)⟩
theorem cal_is_tuple_of (c : Hd fa fn tf w K h mg) (tb : ∀ p ∈ tf, LamX.TabB base mg (He.cT K p).1 (He.cT K p).2) : Cal (TTab tf K) P w K mg base 1 "is_tuple_of" 3 false g_is_tuple_of := by
  obtain ⟨fd, F, G⟩ := ok_is_tuple_of (P := P) (w := w) c tb
  exact G.cal (c.glo 22) F.kp (F.binds fun _ _ _ _ _ _ us hl => match us, hl with | [_, _, _], _ => rfl)
theorem ok_wrong_row (c : Hd fa fn tf w K h mg) (tb : ∀ p ∈ tf, LamX.TabB base mg (He.cT K p).1 (He.cT K p).2) : ∃ fd, Fn K "wrong_row" "wrong_row" (tp 25) (He.ga K "wrong_row") fd (.ref (He.codeOf K ("wrong_row", none))) ∧ FnG (TTab tf K) P w K mg base 3 (He.ga K "wrong_row") fd ["thing"] 1 false g_wrong_row := by
  obtain ⟨fd, F⟩ := c.def_ (st := tp 25) 9
  exact ⟨fd, F, fn_ok (kp := [0]) F sc_wrong_row (by decide) (fun A outer s H E hr hgd =>
      (sss_cons (ss_if (st_not (st_val (so_call (cal_is_tuple_of c tb) hr (by decide) (fun z => by cases z) takesC rfl (sa_cons (so_nm 0) (sa_cons so_int (sa_cons (so_gint rfl (c.int 7)) sa_nil))) (len_cons (len_cons (len_cons len_nil)))))) (sss_one (ss_ret (so_un un_neg rn_neg so_int))) sss_nil)
      (sss_cons (ss_for (passes_of rfl) rfl (si_range1 (js := []) rfl (c.free 0) (sa_cons (so_bi call_len rn_len rfl (c.free 1) boot_len (sa_cons (so_nm 0) sa_nil)) sa_nil) (len_cons len_nil)) (sg_nm 1 sc_wrong_row.nd)
      (sss_one (ss_if (st_not (st_val (so_call (cal_is_between c tb) hr (by decide) (fun z => by cases z) takesC rfl (sa_cons (so_ix ix_seq rn_ix (so_nm 0) (so_nm 1) (fun _ _ => rfl)) (sa_cons so_int (sa_cons (so_gint rfl (c.int 8)) sa_nil))) (len_cons (len_cons (len_cons len_nil)))))) (sss_one (ss_ret (so_nm 1))) sss_nil)))
      (sss_one (ss_ret so_non))))) (fun _ _ => rfl)⟩
theorem cal_wrong_row (c : Hd fa fn tf w K h mg) (tb : ∀ p ∈ tf, LamX.TabB base mg (He.cT K p).1 (He.cT K p).2) : Cal (TTab tf K) P w K mg base 3 "wrong_row" 1 false g_wrong_row := by
  obtain ⟨fd, F, G⟩ := ok_wrong_row (P := P) (w := w) c tb
  exact G.cal (c.glo 23) F.kp (F.binds fun _ _ _ _ _ _ us hl => match us, hl with | [_], _ => rfl)
theorem ok_is_row (c : Hd fa fn tf w K h mg) (tb : ∀ p ∈ tf, LamX.TabB base mg (He.cT K p).1 (He.cT K p).2) : ∃ fd, Fn K "is_row" "is_row" (tp 26) (He.ga K "is_row") fd (.ref (He.codeOf K ("is_row", none))) ∧ FnG (TTab tf K) P w K mg base 4 (He.ga K "is_row") fd ["thing"] 1 false g_is_row := by
  obtain ⟨fd, F⟩ := c.def_ (st := tp 26) 10
  exact ⟨fd, F, fn_ok (kp := [0]) F sc_is_row (by decide) (fun A outer s H E hr hgd =>
      (sss_one (ss_ret (so_cmp op_isN rn_is (so_call (cal_wrong_row c tb) hr (by decide) (fun z => by cases z) takesC rfl (sa_cons (so_nm 0) sa_nil) (len_cons len_nil)) so_non (nomark _))))) (fun _ _ => rfl)⟩
theorem cal_is_row (c : Hd fa fn tf w K h mg) (tb : ∀ p ∈ tf, LamX.TabB base mg (He.cT K p).1 (He.cT K p).2) : Cal (TTab tf K) P w K mg base 4 "is_row" 1 false g_is_row := by
  obtain ⟨fd, F, G⟩ := ok_is_row (P := P) (w := w) c tb
  exact G.cal (c.glo 24) F.kp (F.binds fun _ _ _ _ _ _ us hl => match us, hl with | [_], _ => rfl)
theorem ok_made_rows (c : Hd fa fn tf w K h mg) (tb : ∀ p ∈ tf, LamX.TabB base mg (He.cT K p).1 (He.cT K p).2) : ∃ fd, Fn K "made_rows" "made_rows" (tp 28) (He.ga K "made_rows") fd (.ref (He.codeOf K ("made_rows", none))) ∧ FnG (TTab tf K) P w K mg base 5 (He.ga K "made_rows") fd ["thing"] 1 false g_made_rows := by
  obtain ⟨fd, F⟩ := c.def_ (st := tp 28) 11
  exact ⟨fd, F, fn_ok (kp := [0]) F sc_made_rows (by decide) (fun A outer s H E hr hgd =>
      (sss_cons (ss_if (st_not (st_val (so_call (cal_is_tuple_of c tb) hr (by decide) (fun z => by cases z) takesC rfl (sa_cons (so_nm 0) (sa_cons so_int (sa_cons (so_gint rfl (c.int 9)) sa_nil))) (len_cons (len_cons (len_cons len_nil)))))) (sss_one ss_stuck) sss_nil)
      (sss_cons (ss_for (passes_of rfl) rfl (si_range1 (js := []) rfl (c.free 0) (sa_cons (so_bi call_len rn_len rfl (c.free 1) boot_len (sa_cons (so_nm 0) sa_nil)) sa_nil) (len_cons len_nil)) (sg_nm 1 sc_made_rows.nd)
      (sss_one (ss_if (st_not (st_val (so_call (cal_is_row c tb) hr (by decide) (fun z => by cases z) takesC rfl (sa_cons (so_ix ix_seq rn_ix (so_nm 0) (so_nm 1) (fun _ _ => rfl)) sa_nil) (len_cons len_nil)))) (sss_one ss_stuck) sss_nil)))
      (sss_one (ss_ret (so_nm 0)))))) (fun _ _ => rfl)⟩
theorem cal_made_rows (c : Hd fa fn tf w K h mg) (tb : ∀ p ∈ tf, LamX.TabB base mg (He.cT K p).1 (He.cT K p).2) : Cal (TTab tf K) P w K mg base 5 "made_rows" 1 false g_made_rows := by
  obtain ⟨fd, F, G⟩ := ok_made_rows (P := P) (w := w) c tb
  exact G.cal (c.glo 25) F.kp (F.binds fun _ _ _ _ _ _ us hl => match us, hl with | [_], _ => rfl)
theorem ok_is_big (c : Hd fa fn tf w K h mg) (tb : ∀ p ∈ tf, LamX.TabB base mg (He.cT K p).1 (He.cT K p).2) : ∃ fd, Fn K "is_big" "is_big" (tp 31) (He.ga K "is_big") fd (.ref (He.codeOf K ("is_big", none))) ∧ FnG (TTab tf K) P w K mg base 1 (He.ga K "is_big") fd ["k", "gap"] 2 false g_is_big := by
  obtain ⟨fd, F⟩ := c.def_ (st := tp 31) 12
  exact ⟨fd, F, fn_ok (kp := [0, 1]) F sc_is_big (by decide) (fun A outer s H E hr hgd =>
      (sss_one (ss_ret (so_cmp op_gt rn_gt (so_bin op_mulA rn_mul so_int (so_nm 1)) (so_nm 0) (nomark _))))) (fun _ _ => rfl)⟩
theorem cal_is_big (c : Hd fa fn tf w K h mg) (tb : ∀ p ∈ tf, LamX.TabB base mg (He.cT K p).1 (He.cT K p).2) : Cal (TTab tf K) P w K mg base 1 "is_big" 2 false g_is_big := by
  obtain ⟨fd, F, G⟩ := ok_is_big (P := P) (w := w) c tb
  exact G.cal (c.glo 26) F.kp (F.binds fun _ _ _ _ _ _ us hl => match us, hl with | [_, _], _ => rfl)
theorem ok_gap_pairs (c : Hd fa fn tf w K h mg) (tb : ∀ p ∈ tf, LamX.TabB base mg (He.cT K p).1 (He.cT K p).2) : ∃ fd, Fn K "gap_pairs" "gap_pairs" (tp 30) (He.ga K "gap_pairs") fd (.ref (He.codeOf K ("gap_pairs", none))) ∧ FnG (TTab tf K) P w K mg base 1 (He.ga K "gap_pairs") fd ["row"] 1 false g_gap_pairs := by
  obtain ⟨fd, F⟩ := c.def_ (st := tp 30) 13
  exact ⟨fd, F, fn_ok (kp := [0]) F sc_gap_pairs (by decide) (fun A outer s H E hr hgd =>
      (sss_one (ss_ret (so_lc (n := 2) (own := [("at", 1)]) rfl sc_gap_pairs.nd rfl (si_range1 (js := []) rfl (c.free 0) (sa_cons (so_bi call_len rn_len rfl (c.free 1) boot_len (sa_cons (so_nm 0) sa_nil)) sa_nil) (len_cons len_nil)) (blkOk_by (by kernel_rfl)) (by decide) (fun _ _ _ _ _ => (sg_nm 1 sc_gap_pairs.nd)) (fun _ _ _ _ _ => sts_nil) (fun _ _ _ _ _ => (so_tup (sa_cons (so_ix ix_seq rn_ix (so_nm 0) (so_bin op_sub rn_sub (so_nm 1) so_int) (fun _ _ => rfl)) (sa_cons (so_ix ix_seq rn_ix (so_nm 0) (so_nm 1) (fun _ _ => rfl)) sa_nil)) (Len.le (len_cons (len_cons len_nil)) (by rw [sizeLine_eq]; decide)))))))) (fun _ _ => rfl)⟩
theorem cal_gap_pairs (c : Hd fa fn tf w K h mg) (tb : ∀ p ∈ tf, LamX.TabB base mg (He.cT K p).1 (He.cT K p).2) : Cal (TTab tf K) P w K mg base 1 "gap_pairs" 1 false g_gap_pairs := by
  obtain ⟨fd, F, G⟩ := ok_gap_pairs (P := P) (w := w) c tb
  exact G.cal (c.glo 27) F.kp (F.binds fun _ _ _ _ _ _ us hl => match us, hl with | [_], _ => rfl)
theorem ok_has_middle (c : Hd fa fn tf w K h mg) (tb : ∀ p ∈ tf, LamX.TabB base mg (He.cT K p).1 (He.cT K p).2) : ∃ fd, Fn K "has_middle" "has_middle" (tp 32) (He.ga K "has_middle") fd (.ref (He.codeOf K ("has_middle", none))) ∧ FnG (TTab tf K) P w K mg base 2 (He.ga K "has_middle") fd ["k", "row"] 2 false g_has_middle := by
  obtain ⟨fd, F⟩ := c.def_ (st := tp 32) 14
  exact ⟨fd, F, fn_ok (kp := [0, 1]) F sc_has_middle (by decide) (fun A outer s H E hr hgd =>
      (sss_one (ss_ret (so_bi (cr_any rfl) rn_any rfl (c.free 10) boot_any (sa_cons (so_lc (n := 4) (own := [("left", 2), ("right", 3)]) rfl sc_has_middle.nd rfl (si_seq (js := []) (so_call (cal_gap_pairs c tb) hr (by decide) (fun z => by cases z) takesC rfl (sa_cons (so_nm 1) sa_nil) (len_cons len_nil)) owns_call.slot) (blkOk_by (by kernel_rfl)) (by decide) (fun _ _ _ _ _ => (sg_tup rfl (sgs_cons (sg_nm 2 sc_has_middle.nd) (sgs_cons (sg_nm 3 sc_has_middle.nd) sgs_nil)))) (fun _ _ _ _ _ => sts_nil) (fun _ _ _ _ _ => (so_and (so_call (cal_is_big c tb) hr (by decide) (fun z => by cases z) LamX.takes0 rfl (sa_cons (so_nm 0) (sa_cons (so_nm 2) sa_nil)) (len_cons (len_cons len_nil))) (so_one (so_call (cal_is_big c tb) hr (by decide) (fun z => by cases z) LamX.takes0 rfl (sa_cons (so_nm 0) (sa_cons (so_nm 3) sa_nil)) (len_cons (len_cons len_nil))))))) sa_nil))))) (fun _ _ => rfl)⟩
theorem cal_has_middle (c : Hd fa fn tf w K h mg) (tb : ∀ p ∈ tf, LamX.TabB base mg (He.cT K p).1 (He.cT K p).2) : Cal (TTab tf K) P w K mg base 2 "has_middle" 2 false g_has_middle := by
  obtain ⟨fd, F, G⟩ := ok_has_middle (P := P) (w := w) c tb
  exact G.cal (c.glo 28) F.kp (F.binds fun _ _ _ _ _ _ us hl => match us, hl with | [_, _], _ => rfl)
theorem ok_middle_row (c : Hd fa fn tf w K h mg) (tb : ∀ p ∈ tf, LamX.TabB base mg (He.cT K p).1 (He.cT K p).2) : ∃ fd, Fn K "middle_row" "middle_row" (tp 33) (He.ga K "middle_row") fd (.ref (He.codeOf K ("middle_row", none))) ∧ FnG (TTab tf K) P w K mg base 6 (He.ga K "middle_row") fd ["k", "rows"] 2 false g_middle_row := by
  obtain ⟨fd, F⟩ := c.def_ (st := tp 33) 15
  exact ⟨fd, F, fn_ok (kp := [0, 1]) F sc_middle_row (by decide) (fun A outer s H E hr hgd =>
      (sss_cons (ss_expr (so_call (cal_made_k c tb) hr (by decide) (fun z => by cases z) takesC rfl (sa_cons (so_nm 0) sa_nil) (len_cons len_nil)))
      (sss_cons (ss_expr (so_call (cal_made_rows c tb) hr (by decide) (fun z => by cases z) takesC rfl (sa_cons (so_nm 1) sa_nil) (len_cons len_nil)))
      (sss_cons (ss_for (passes_of rfl) rfl (si_enum (js := [1]) rfl (c.free 11) (so_nm 1) slot_nm) (sg_tup rfl (sgs_cons (sg_nm 2 sc_middle_row.nd) (sgs_cons (sg_nm 3 sc_middle_row.nd) sgs_nil)))
      (sss_one (ss_if (st_val (so_call (cal_has_middle c tb) hr (by decide) (fun z => by cases z) takesC rfl (sa_cons (so_nm 0) (sa_cons (so_nm 3) sa_nil)) (len_cons (len_cons len_nil)))) (sss_one (ss_ret (so_nm 2))) sss_nil)))
      (sss_one (ss_ret so_non)))))) (fun _ _ => rfl)⟩
theorem cal_middle_row (c : Hd fa fn tf w K h mg) (tb : ∀ p ∈ tf, LamX.TabB base mg (He.cT K p).1 (He.cT K p).2) : Cal (TTab tf K) P w K mg base 6 "middle_row" 2 false g_middle_row := by
  obtain ⟨fd, F, G⟩ := ok_middle_row (P := P) (w := w) c tb
  exact G.cal (c.glo 29) F.kp (F.binds fun _ _ _ _ _ _ us hl => match us, hl with | [_, _], _ => rfl)
theorem calK_middle_row_rows_k (c : Hd fa fn tf w K h mg) (tb : ∀ p ∈ tf, LamX.TabB base mg (He.cT K p).1 (He.cT K p).2) : CalK (TTab tf K) P w K mg base 6 "middle_row" 2 false ["rows", "k"] [1, 0] g_middle_row := by
  obtain ⟨fd, F, G⟩ := ok_middle_row (P := P) (w := w) c tb
  exact G.calK (c.glo 29) F.kp (F.bindsTo fun _ _ _ _ _ _ us hl => match us, hl with | [_, _], _ => rfl)
theorem ok_f_law_middle (c : Hd fa fn tf w K h mg) (tb : ∀ p ∈ tf, LamX.TabB base mg (He.cT K p).1 (He.cT K p).2) : ∃ fd, Fn K "_law_middle" "_law_middle" (tp 46) (He.ga K "_law_middle") fd (.ref (He.codeOf K ("_law_middle", none))) ∧ FnG (TTab tf K) P w K mg base 9 (He.ga K "_law_middle") fd ["k", "rows"] 2 false g_f_law_middle := by
  obtain ⟨fd, F⟩ := c.def_ (st := tp 46) 16
  obtain ⟨fdH, FH⟩ := c.def_ (st := tp 43) 4
  have bH := FH.binds (ps := ["call"]) fun _ _ _ _ _ _ us hl => match us, hl with | [_], _ => rfl
  exact ⟨fd, F, fn_ok (kp := [0, 1]) F sc_f_law_middle (by decide) (fun A outer s H E hr hgd =>
      (sss_one (ss_ret (so_heardF (k := 6) (Pt := (He.cT K ("_law_middle", none)).2) rfl (c.glo 12) FH bH sc_f_law_qh_heard rfl (Or.inl rfl) (thru_gives (fun _ => rfl)) (tb ("_law_middle", none) (by decide)) rfl (ttab_mem (p := ("_law_middle", none)) (by decide)) (ttab_u c.says.more (p := ("_law_middle", none)) (by decide)) hr (by decide) (LamX.lamS_by (by kernel_rfl)) rfl (fun _ _ _ _ _ => rfl) (fun A2 outer2 s2 H2 E2 f2 c2 hr2 => (so_call (cal_middle_row c tb) hr2 (by decide) (fun z => by cases z) LamX.takes0 rfl (sa_cons (so_nm 0) (sa_cons (so_nm 1) sa_nil)) (len_cons (len_cons len_nil)))))))) (fun _ _ => rfl)⟩
theorem cal_f_law_middle (c : Hd fa fn tf w K h mg) (tb : ∀ p ∈ tf, LamX.TabB base mg (He.cT K p).1 (He.cT K p).2) : Cal (TTab tf K) P w K mg base 9 "_law_middle" 2 false g_f_law_middle := by
  obtain ⟨fd, F, G⟩ := ok_f_law_middle (P := P) (w := w) c tb
  exact G.cal (c.glo 30) F.kp (F.binds fun _ _ _ _ _ _ us hl => match us, hl with | [_, _], _ => rfl)
theorem ok_made_row (c : Hd fa fn tf w K h mg) (tb : ∀ p ∈ tf, LamX.TabB base mg (He.cT K p).1 (He.cT K p).2) : ∃ fd, Fn K "made_row" "made_row" (tp 27) (He.ga K "made_row") fd (.ref (He.codeOf K ("made_row", none))) ∧ FnG (TTab tf K) P w K mg base 4 (He.ga K "made_row") fd ["thing"] 1 false g_made_row := by
  obtain ⟨fd, F⟩ := c.def_ (st := tp 27) 17
  exact ⟨fd, F, fn_ok (kp := [0]) F sc_made_row (by decide) (fun A outer s H E hr hgd =>
      (sss_cons (ss_set 1 sc_made_row.nd (so_call (cal_wrong_row c tb) hr (by decide) (fun z => by cases z) takesC rfl (sa_cons (so_nm 0) sa_nil) (len_cons len_nil)))
      (sss_cons (ss_if (st_cmp op_notN rn_isnot (so_nm 1) so_non (nomark _)) (sss_one ss_stuck) sss_nil)
      (sss_one (ss_ret (so_nm 0)))))) (fun _ _ => rfl)⟩
theorem cal_made_row (c : Hd fa fn tf w K h mg) (tb : ∀ p ∈ tf, LamX.TabB base mg (He.cT K p).1 (He.cT K p).2) : Cal (TTab tf K) P w K mg base 4 "made_row" 1 false g_made_row := by
  obtain ⟨fd, F, G⟩ := ok_made_row (P := P) (w := w) c tb
  exact G.cal (c.glo 31) F.kp (F.binds fun _ _ _ _ _ _ us hl => match us, hl with | [_], _ => rfl)
theorem ok_sides (c : Hd fa fn tf w K h mg) (tb : ∀ p ∈ tf, LamX.TabB base mg (He.cT K p).1 (He.cT K p).2) : ∃ fd, Fn K "sides" "sides" (tp 34) (He.ga K "sides") fd (.ref (He.codeOf K ("sides", none))) ∧ FnG (TTab tf K) P w K mg base 5 (He.ga K "sides") fd ["k", "row"] 2 false g_sides := by
  obtain ⟨fd, F⟩ := c.def_ (st := tp 34) 18
  exact ⟨fd, F, fn_ok (kp := [0, 1]) F sc_sides (by decide) (fun A outer s H E hr hgd =>
      (sss_cons (ss_expr (so_call (cal_made_k c tb) hr (by decide) (fun z => by cases z) takesC rfl (sa_cons (so_nm 0) sa_nil) (len_cons len_nil)))
      (sss_cons (ss_expr (so_call (cal_made_row c tb) hr (by decide) (fun z => by cases z) takesC rfl (sa_cons (so_nm 1) sa_nil) (len_cons len_nil)))
      (sss_cons (ss_asg (so_tup (sa_cons so_int (sa_cons so_int sa_nil)) (Len.le (len_cons (len_cons len_nil)) (by rw [sizeLine_eq]; decide))) (sg_tup rfl (sgs_cons (sg_nm 2 sc_sides.nd) (sgs_cons (sg_nm 3 sc_sides.nd) sgs_nil))))
      (sss_cons (ss_for (passes_of rfl) rfl (si_seq (js := []) (so_call (cal_gap_pairs c tb) hr (by decide) (fun z => by cases z) takesC rfl (sa_cons (so_nm 1) sa_nil) (len_cons len_nil)) owns_call.slot) (sg_tup rfl (sgs_cons (sg_nm 4 sc_sides.nd) (sgs_cons (sg_nm 5 sc_sides.nd) sgs_nil)))
      (sss_cons (ss_if (st_bool (sw_and (st_val (so_call (cal_is_big c tb) hr (by decide) (fun z => by cases z) takesC rfl (sa_cons (so_nm 0) (sa_cons (so_nm 4) sa_nil)) (len_cons (len_cons len_nil)))) (sw_and1 (st_not (st_val (so_call (cal_is_big c tb) hr (by decide) (fun z => by cases z) takesC rfl (sa_cons (so_nm 0) (sa_cons (so_nm 5) sa_nil)) (len_cons (len_cons len_nil)))))))) (sss_one (ss_set 2 sc_sides.nd (so_bi (call_max2 rfl) rn_max2 rfl (c.free 13) boot_max (sa_cons (so_nm 2) (sa_cons (so_bin op_sub rn_sub (so_bin op_addA rn_add (so_nm 4) (so_nm 5)) (so_nm 0)) sa_nil))))) sss_nil)
      (sss_one (ss_if (st_bool (sw_and (st_val (so_call (cal_is_big c tb) hr (by decide) (fun z => by cases z) takesC rfl (sa_cons (so_nm 0) (sa_cons (so_nm 5) sa_nil)) (len_cons (len_cons len_nil)))) (sw_and1 (st_not (st_val (so_call (cal_is_big c tb) hr (by decide) (fun z => by cases z) takesC rfl (sa_cons (so_nm 0) (sa_cons (so_nm 4) sa_nil)) (len_cons (len_cons len_nil)))))))) (sss_one (ss_set 3 sc_sides.nd (so_bi (call_max2 rfl) rn_max2 rfl (c.free 13) boot_max (sa_cons (so_nm 3) (sa_cons (so_bin op_sub rn_sub (so_bin op_addA rn_add (so_nm 4) (so_nm 5)) (so_nm 0)) sa_nil))))) sss_nil))))
      (sss_one (ss_ret (so_tup (sa_cons (so_nm 2) (sa_cons (so_nm 3) sa_nil)) (Len.le (len_cons (len_cons len_nil)) (by rw [sizeLine_eq]; decide)))))))))) (fun _ _ => rfl)⟩
theorem cal_sides (c : Hd fa fn tf w K h mg) (tb : ∀ p ∈ tf, LamX.TabB base mg (He.cT K p).1 (He.cT K p).2) : Cal (TTab tf K) P w K mg base 5 "sides" 2 false g_sides := by
  obtain ⟨fd, F, G⟩ := ok_sides (P := P) (w := w) c tb
  exact G.cal (c.glo 32) F.kp (F.binds fun _ _ _ _ _ _ us hl => match us, hl with | [_, _], _ => rfl)
theorem calK_sides_row_k (c : Hd fa fn tf w K h mg) (tb : ∀ p ∈ tf, LamX.TabB base mg (He.cT K p).1 (He.cT K p).2) : CalK (TTab tf K) P w K mg base 5 "sides" 2 false ["row", "k"] [1, 0] g_sides := by
  obtain ⟨fd, F, G⟩ := ok_sides (P := P) (w := w) c tb
  exact G.calK (c.glo 32) F.kp (F.bindsTo fun _ _ _ _ _ _ us hl => match us, hl with | [_, _], _ => rfl)
theorem ok_f_law_sides (c : Hd fa fn tf w K h mg) (tb : ∀ p ∈ tf, LamX.TabB base mg (He.cT K p).1 (He.cT K p).2) : ∃ fd, Fn K "_law_sides" "_law_sides" (tp 45) (He.ga K "_law_sides") fd (.ref (He.codeOf K ("_law_sides", none))) ∧ FnG (TTab tf K) P w K mg base 8 (He.ga K "_law_sides") fd ["k", "row"] 2 false g_f_law_sides := by
  obtain ⟨fd, F⟩ := c.def_ (st := tp 45) 19
  obtain ⟨fdH, FH⟩ := c.def_ (st := tp 43) 4
  have bH := FH.binds (ps := ["call"]) fun _ _ _ _ _ _ us hl => match us, hl with | [_], _ => rfl
  exact ⟨fd, F, fn_ok (kp := [0, 1]) F sc_f_law_sides (by decide) (fun A outer s H E hr hgd =>
      (sss_one (ss_ret (so_heardF (k := 5) (Pt := (He.cT K ("_law_sides", none)).2) rfl (c.glo 12) FH bH sc_f_law_qh_heard rfl (Or.inl rfl) (thru_gives (fun _ => rfl)) (tb ("_law_sides", none) (by decide)) rfl (ttab_mem (p := ("_law_sides", none)) (by decide)) (ttab_u c.says.more (p := ("_law_sides", none)) (by decide)) hr (by decide) (LamX.lamS_by (by kernel_rfl)) rfl (fun _ _ _ _ _ => rfl) (fun A2 outer2 s2 H2 E2 f2 c2 hr2 => (so_call (cal_sides c tb) hr2 (by decide) (fun z => by cases z) LamX.takes0 rfl (sa_cons (so_nm 0) (sa_cons (so_nm 1) sa_nil)) (len_cons (len_cons len_nil)))))))) (fun _ _ => rfl)⟩
theorem cal_f_law_sides (c : Hd fa fn tf w K h mg) (tb : ∀ p ∈ tf, LamX.TabB base mg (He.cT K p).1 (He.cT K p).2) : Cal (TTab tf K) P w K mg base 8 "_law_sides" 2 false g_f_law_sides := by
  obtain ⟨fd, F, G⟩ := ok_f_law_sides (P := P) (w := w) c tb
  exact G.cal (c.glo 33) F.kp (F.binds fun _ _ _ _ _ _ us hl => match us, hl with | [_, _], _ => rfl)
theorem ok_f_law_bounds_right (c : Hd fa fn tf w K h mg) (tb : ∀ p ∈ tf, LamX.TabB base mg (He.cT K p).1 (He.cT K p).2) : ∃ fd, Fn K "_law_bounds_right" "_law_bounds_right" (tp 49) (He.ga K "_law_bounds_right") fd (.ref (He.codeOf K ("_law_bounds_right", none))) ∧ FnG (TTab tf K) P w K mg base 10 (He.ga K "_law_bounds_right") fd [] 0 true g_f_law_bounds_right := by
  obtain ⟨fd, F⟩ := c.def_ (st := tp 49) 20
  exact ⟨fd, F, fn_ok (kp := []) F sc_f_law_bounds_right (by decide) (fun A outer s H E hr hgd =>
      (sss_cons (ss_set 0 sc_f_law_bounds_right.nd (so_lst (sa_cons (so_tup (sa_cons so_int (sa_cons (so_tup (sa_cons so_int (sa_cons so_int sa_nil)) (Len.le (len_cons (len_cons len_nil)) (by rw [sizeLine_eq]; decide))) (sa_cons so_non (sa_cons (so_tup (sa_cons so_int (sa_cons so_int sa_nil)) (Len.le (len_cons (len_cons len_nil)) (by rw [sizeLine_eq]; decide))) sa_nil)))) (Len.le (len_cons (len_cons (len_cons (len_cons len_nil)))) (by rw [sizeLine_eq]; decide))) (sa_cons (so_tup (sa_cons so_int (sa_cons (so_tup (sa_cons so_int (sa_cons so_int sa_nil)) (Len.le (len_cons (len_cons len_nil)) (by rw [sizeLine_eq]; decide))) (sa_cons so_int (sa_cons (so_tup (sa_cons so_int (sa_cons so_int sa_nil)) (Len.le (len_cons (len_cons len_nil)) (by rw [sizeLine_eq]; decide))) sa_nil)))) (Len.le (len_cons (len_cons (len_cons (len_cons len_nil)))) (by rw [sizeLine_eq]; decide))) (sa_cons (so_tup (sa_cons so_int (sa_cons (so_tup (sa_cons so_int (sa_cons so_int (sa_cons so_int sa_nil))) (Len.le (len_cons (len_cons (len_cons len_nil))) (by rw [sizeLine_eq]; decide))) (sa_cons so_int (sa_cons (so_tup (sa_cons so_int (sa_cons so_int sa_nil)) (Len.le (len_cons (len_cons len_nil)) (by rw [sizeLine_eq]; decide))) sa_nil)))) (Len.le (len_cons (len_cons (len_cons (len_cons len_nil)))) (by rw [sizeLine_eq]; decide))) (sa_cons (so_tup (sa_cons so_int (sa_cons (so_tup (sa_cons so_int (sa_cons so_int sa_nil)) (Len.le (len_cons (len_cons len_nil)) (by rw [sizeLine_eq]; decide))) (sa_cons so_non (sa_cons (so_tup (sa_cons so_int (sa_cons so_int sa_nil)) (Len.le (len_cons (len_cons len_nil)) (by rw [sizeLine_eq]; decide))) sa_nil)))) (Len.le (len_cons (len_cons (len_cons (len_cons len_nil)))) (by rw [sizeLine_eq]; decide))) sa_nil)))) (Len.le (len_cons (len_cons (len_cons (len_cons len_nil)))) (by rw [sizeLine_eq]; decide))))
      (sss_cons (ss_expr (so_extend 0 (so_lst (sa_cons (so_tup (sa_cons so_int (sa_cons (so_tup (sa_cons so_int (sa_cons so_int (sa_cons so_int (sa_cons so_int sa_nil)))) (Len.le (len_cons (len_cons (len_cons (len_cons len_nil)))) (by rw [sizeLine_eq]; decide))) (sa_cons so_non (sa_cons (so_tup (sa_cons so_int (sa_cons so_int sa_nil)) (Len.le (len_cons (len_cons len_nil)) (by rw [sizeLine_eq]; decide))) sa_nil)))) (Len.le (len_cons (len_cons (len_cons (len_cons len_nil)))) (by rw [sizeLine_eq]; decide))) (sa_cons (so_tup (sa_cons so_int (sa_cons (so_tup (sa_cons so_int sa_nil) (Len.le (len_cons len_nil) (by rw [sizeLine_eq]; decide))) (sa_cons so_int (sa_cons (so_tup (sa_cons so_int (sa_cons so_int sa_nil)) (Len.le (len_cons (len_cons len_nil)) (by rw [sizeLine_eq]; decide))) sa_nil)))) (Len.le (len_cons (len_cons (len_cons (len_cons len_nil)))) (by rw [sizeLine_eq]; decide))) (sa_cons (so_tup (sa_cons so_int (sa_cons (so_tup (sa_cons so_int sa_nil) (Len.le (len_cons len_nil) (by rw [sizeLine_eq]; decide))) (sa_cons so_non (sa_cons (so_tup (sa_cons so_int (sa_cons so_int sa_nil)) (Len.le (len_cons (len_cons len_nil)) (by rw [sizeLine_eq]; decide))) sa_nil)))) (Len.le (len_cons (len_cons (len_cons (len_cons len_nil)))) (by rw [sizeLine_eq]; decide))) sa_nil))) (Len.le (len_cons (len_cons (len_cons len_nil))) (by rw [sizeLine_eq]; decide)))))
      (sss_cons (ss_expr (so_extend 0 (so_lst (sa_cons (so_tup (sa_cons so_int (sa_cons (so_tup (sa_cons so_int (sa_cons so_int sa_nil)) (Len.le (len_cons (len_cons len_nil)) (by rw [sizeLine_eq]; decide))) (sa_cons so_int (sa_cons (so_tup (sa_cons so_int (sa_cons so_int sa_nil)) (Len.le (len_cons (len_cons len_nil)) (by rw [sizeLine_eq]; decide))) sa_nil)))) (Len.le (len_cons (len_cons (len_cons (len_cons len_nil)))) (by rw [sizeLine_eq]; decide))) (sa_cons (so_tup (sa_cons so_int (sa_cons (so_tup (sa_cons so_int (sa_cons so_int sa_nil)) (Len.le (len_cons (len_cons len_nil)) (by rw [sizeLine_eq]; decide))) (sa_cons so_non (sa_cons (so_tup (sa_cons so_int (sa_cons so_int sa_nil)) (Len.le (len_cons (len_cons len_nil)) (by rw [sizeLine_eq]; decide))) sa_nil)))) (Len.le (len_cons (len_cons (len_cons (len_cons len_nil)))) (by rw [sizeLine_eq]; decide))) (sa_cons (so_tup (sa_cons so_int (sa_cons (so_tup (sa_cons so_int sa_nil) (Len.le (len_cons len_nil) (by rw [sizeLine_eq]; decide))) (sa_cons so_int (sa_cons (so_tup (sa_cons so_int (sa_cons so_int sa_nil)) (Len.le (len_cons (len_cons len_nil)) (by rw [sizeLine_eq]; decide))) sa_nil)))) (Len.le (len_cons (len_cons (len_cons (len_cons len_nil)))) (by rw [sizeLine_eq]; decide))) sa_nil))) (Len.le (len_cons (len_cons (len_cons len_nil))) (by rw [sizeLine_eq]; decide)))))
      (sss_cons (ss_expr (so_extend 0 (so_lst (sa_cons (so_tup (sa_cons so_int (sa_cons (so_tup (sa_cons so_int (sa_cons so_int sa_nil)) (Len.le (len_cons (len_cons len_nil)) (by rw [sizeLine_eq]; decide))) (sa_cons so_non (sa_cons (so_tup (sa_cons so_int (sa_cons so_int sa_nil)) (Len.le (len_cons (len_cons len_nil)) (by rw [sizeLine_eq]; decide))) sa_nil)))) (Len.le (len_cons (len_cons (len_cons (len_cons len_nil)))) (by rw [sizeLine_eq]; decide))) (sa_cons (so_tup (sa_cons so_int (sa_cons (so_tup (sa_cons so_int (sa_cons so_int sa_nil)) (Len.le (len_cons (len_cons len_nil)) (by rw [sizeLine_eq]; decide))) (sa_cons so_non (sa_cons (so_tup (sa_cons so_int (sa_cons so_int sa_nil)) (Len.le (len_cons (len_cons len_nil)) (by rw [sizeLine_eq]; decide))) sa_nil)))) (Len.le (len_cons (len_cons (len_cons (len_cons len_nil)))) (by rw [sizeLine_eq]; decide))) sa_nil)) (Len.le (len_cons (len_cons len_nil)) (by rw [sizeLine_eq]; decide)))))
      (sss_cons (ss_for (passes_of rfl) rfl (si_seq (js := [0]) (so_nm 0) slot_nm) (sg_tup rfl (sgs_cons (sg_nm 1 sc_f_law_bounds_right.nd) (sgs_cons (sg_nm 2 sc_f_law_bounds_right.nd) (sgs_cons (sg_nm 3 sc_f_law_bounds_right.nd) (sgs_cons (sg_nm 4 sc_f_law_bounds_right.nd) sgs_nil)))))
      (sss_cons (ss_if (st_cmp (op_neA (Room.u64 hr)) rn_neA (so_tup (sa_cons (so_call (cal_f_law_qt_middle_row c tb) hr (by decide) (fun z => by cases z) takesC rfl (sa_cons (so_nm 1) (sa_cons (so_tup (sa_cons (so_nm 2) sa_nil) (Len.le (len_cons len_nil) (by rw [sizeLine_eq]; decide))) sa_nil)) (len_cons (len_cons len_nil))) (sa_cons (so_call (cal_f_law_qt_sides c tb) hr (by decide) (fun z => by cases z) takesC rfl (sa_cons (so_nm 1) (sa_cons (so_nm 2) sa_nil)) (len_cons (len_cons len_nil))) sa_nil)) (Len.le (len_cons (len_cons len_nil)) (by rw [sizeLine_eq]; decide))) (so_tup (sa_cons (so_nm 3) (sa_cons (so_nm 4) sa_nil)) (Len.le (len_cons (len_cons len_nil)) (by rw [sizeLine_eq]; decide))) (nomark _)) (sss_one (ss_ret so_bl)) sss_nil)
      (sss_one (ss_if (st_cmp (op_neA (Room.u64 hr)) rn_neA (so_bi (call_reprD (hgd rfl) (Room.u80 hr)) rn_repr rfl (c.free 14) boot_repr (sa_cons (so_lst (sa_cons (so_call (cal_f_law_middle c tb) hr (by decide) (fun z => by cases z) takesC rfl (sa_cons (so_nm 1) (sa_cons (so_tup (sa_cons (so_nm 2) sa_nil) (Len.le (len_cons len_nil) (by rw [sizeLine_eq]; decide))) sa_nil)) (len_cons (len_cons len_nil))) (sa_cons (so_call (cal_f_law_sides c tb) hr (by decide) (fun z => by cases z) takesC rfl (sa_cons (so_nm 1) (sa_cons (so_nm 2) sa_nil)) (len_cons (len_cons len_nil))) sa_nil)) (Len.le (len_cons (len_cons len_nil)) (by rw [sizeLine_eq]; decide))) sa_nil)) (so_bi (call_reprD (hgd rfl) (Room.u80 hr)) rn_repr rfl (c.free 14) boot_repr (sa_cons (so_lst (sa_cons (so_tup (sa_cons so_str (sa_cons (so_nm 3) sa_nil)) (Len.le (len_cons (len_cons len_nil)) (by rw [sizeLine_eq]; decide))) (sa_cons (so_tup (sa_cons so_str (sa_cons (so_nm 4) sa_nil)) (Len.le (len_cons (len_cons len_nil)) (by rw [sizeLine_eq]; decide))) sa_nil)) (Len.le (len_cons (len_cons len_nil)) (by rw [sizeLine_eq]; decide))) sa_nil)) (nomark _)) (sss_one (ss_ret so_bl)) sss_nil))))
      (sss_one (ss_ret so_bl)))))))) (fun _ _ => rfl)⟩
theorem cal_f_law_bounds_right (c : Hd fa fn tf w K h mg) (tb : ∀ p ∈ tf, LamX.TabB base mg (He.cT K p).1 (He.cT K p).2) : Cal (TTab tf K) P w K mg base 10 "_law_bounds_right" 0 true g_f_law_bounds_right := by
  obtain ⟨fd, F, G⟩ := ok_f_law_bounds_right (P := P) (w := w) c tb
  exact G.cal (c.glo 34) F.kp (F.binds fun _ _ _ _ _ _ us hl => match us, hl with | [], _ => rfl)
theorem ok_f_law_take (c : Hd fa fn tf w K h mg) (tb : ∀ p ∈ tf, LamX.TabB base mg (He.cT K p).1 (He.cT K p).2) : ∃ fd, Fn K "_law_take" "_law_take" (tp 37) (He.ga K "_law_take") fd (.ref (He.codeOf K ("_law_take", none))) ∧ FnG (TTab tf K) P w K mg base 1 (He.ga K "_law_take") fd ["jar", "many"] 2 false g_f_law_take := by
  obtain ⟨fd, F⟩ := c.def_ (st := tp 37) 21
  exact ⟨fd, F, fn_ok (kp := [0, 1]) F sc_f_law_take (by decide) (fun A outer s H E hr hgd =>
      (sss_cons (ss_if (st_cmp op_gt rn_gt (so_ix ix_seq rn_ix (so_nm 0) so_int (fun _ _ => rfl)) so_int (nomark _)) (sss_cons (ss_set 2 sc_f_law_take.nd (so_bin op_mod rn_mod (so_ty call_int1 rn_toint rfl (c.free 2) boot_int (sa_cons (so_ix ix_seq rn_ix (so_nm 0) so_int (fun _ _ => rfl)) sa_nil)) (so_nm 1)))
      (sss_cons (ss_store 0 (so_bin op_fdivW rn_div (so_ix ix_seq rn_ix (so_nm 0) so_int (fun _ _ => rfl)) (so_nm 1)) so_int)
      (sss_one (ss_ret (so_nm 2))))) sss_nil)
      (sss_cons (ss_store 0 (so_bin op_addA rn_add (so_ix ix_seq rn_ix (so_nm 0) so_int (fun _ _ => rfl)) so_int) so_int)
      (sss_cons (ss_store 0 (so_bin op_mod rn_mod (so_ty call_int1 rn_toint rfl (c.free 2) boot_int (sa_cons (so_bin op_addA rn_add (so_bin op_addA rn_add (so_bin op_mulA rn_mul (so_ix ix_seq rn_ix (so_nm 0) so_int (fun _ _ => rfl)) so_int) (so_bin op_mulA rn_mul so_int (so_ix ix_seq rn_ix (so_nm 0) so_int (fun _ _ => rfl)))) so_int) sa_nil)) so_int) so_int)
      (sss_one (ss_ret (so_bin op_mod rn_mod (so_ty call_int1 rn_toint rfl (c.free 2) boot_int (sa_cons (so_bin op_fdivW rn_div (so_bin op_mod rn_mod (so_ty call_int1 rn_toint rfl (c.free 2) boot_int (sa_cons (so_bin op_mulA rn_mul (so_ix ix_seq rn_ix (so_nm 0) so_int (fun _ _ => rfl)) (so_ix ix_seq rn_ix (so_nm 0) so_int (fun _ _ => rfl))) sa_nil)) so_int) so_int) sa_nil)) (so_nm 1)))))))) (fun _ _ => rfl)⟩
theorem cal_f_law_take (c : Hd fa fn tf w K h mg) (tb : ∀ p ∈ tf, LamX.TabB base mg (He.cT K p).1 (He.cT K p).2) : Cal (TTab tf K) P w K mg base 1 "_law_take" 2 false g_f_law_take := by
  obtain ⟨fd, F, G⟩ := ok_f_law_take (P := P) (w := w) c tb
  exact G.cal (c.glo 35) F.kp (F.binds fun _ _ _ _ _ _ us hl => match us, hl with | [_, _], _ => rfl)
theorem ok_f_law_one (c : Hd fa fn tf w K h mg) (tb : ∀ p ∈ tf, LamX.TabB base mg (He.cT K p).1 (He.cT K p).2) : ∃ fd, Fn K "_law_one" "_law_one" (tp 38) (He.ga K "_law_one") fd (.ref (He.codeOf K ("_law_one", none))) ∧ FnG (TTab tf K) P w K mg base 2 (He.ga K "_law_one") fd ["jar", "things"] 2 false g_f_law_one := by
  obtain ⟨fd, F⟩ := c.def_ (st := tp 38) 22
  exact ⟨fd, F, fn_ok (kp := [0, 1]) F sc_f_law_one (by decide) (fun A outer s H E hr hgd =>
      (sss_one (ss_ret (so_ix ix_seq rn_ix (so_nm 1) (so_call (cal_f_law_take c tb) hr (by decide) (fun z => by cases z) takesC rfl (sa_cons (so_nm 0) (sa_cons (so_bi call_len rn_len rfl (c.free 1) boot_len (sa_cons (so_nm 1) sa_nil)) sa_nil)) (len_cons (len_cons len_nil))) (fun _ _ => rfl))))) (fun _ _ => rfl)⟩
theorem cal_f_law_one (c : Hd fa fn tf w K h mg) (tb : ∀ p ∈ tf, LamX.TabB base mg (He.cT K p).1 (He.cT K p).2) : Cal (TTab tf K) P w K mg base 2 "_law_one" 2 false g_f_law_one := by
  obtain ⟨fd, F, G⟩ := ok_f_law_one (P := P) (w := w) c tb
  exact G.cal (c.glo 36) F.kp (F.binds fun _ _ _ _ _ _ us hl => match us, hl with | [_, _], _ => rfl)
theorem ok_f_law_qg_k (c : Hd fa fn tf w K h mg) (tb : ∀ p ∈ tf, LamX.TabB base mg (He.cT K p).1 (He.cT K p).2) : ∃ fd, Fn K "_law_qg_k" "_law_qg_k" (tp 42) (He.ga K "_law_qg_k") fd (.ref (He.codeOf K ("_law_qg_k", none))) ∧ FnG (TTab tf K) P w K mg base 3 (He.ga K "_law_qg_k") fd ["jar"] 1 false g_f_law_qg_k := by
  obtain ⟨fd, F⟩ := c.def_ (st := tp 42) 23
  exact ⟨fd, F, fn_ok (kp := [0]) F sc_f_law_qg_k (by decide) (fun A outer s H E hr hgd =>
      (sss_one (ss_ret (so_call (cal_f_law_one c tb) hr (by decide) (fun z => by cases z) takesC rfl (sa_cons (so_nm 0) (sa_cons (so_lst (sa_cons so_int (sa_cons so_int (sa_cons so_int (sa_cons so_int (sa_cons so_int (sa_cons so_int (sa_cons so_int (sa_cons so_int (sa_cons so_int (sa_cons (so_bin op_addA rn_add so_int (so_call (cal_f_law_take c tb) hr (by decide) (fun z => by cases z) takesC rfl (sa_cons (so_nm 0) (sa_cons so_int sa_nil)) (len_cons (len_cons len_nil)))) (sa_cons so_int sa_nil))))))))))) (Len.le (len_cons (len_cons (len_cons (len_cons (len_cons (len_cons (len_cons (len_cons (len_cons (len_cons (len_cons len_nil))))))))))) (by rw [sizeLine_eq]; decide))) sa_nil)) (len_cons (len_cons len_nil)))))) (fun _ _ => rfl)⟩
theorem cal_f_law_qg_k (c : Hd fa fn tf w K h mg) (tb : ∀ p ∈ tf, LamX.TabB base mg (He.cT K p).1 (He.cT K p).2) : Cal (TTab tf K) P w K mg base 3 "_law_qg_k" 1 false g_f_law_qg_k := by
  obtain ⟨fd, F, G⟩ := ok_f_law_qg_k (P := P) (w := w) c tb
  exact G.cal (c.glo 37) F.kp (F.binds fun _ _ _ _ _ _ us hl => match us, hl with | [_], _ => rfl)
theorem ok_f_law_rows_right (c : Hd fa fn tf w K h mg) (tb : ∀ p ∈ tf, LamX.TabB base mg (He.cT K p).1 (He.cT K p).2) : ∃ fd, Fn K "_law_rows_right" "_law_rows_right" (tp 48) (He.ga K "_law_rows_right") fd (.ref (He.codeOf K ("_law_rows_right", none))) ∧ FnG (TTab tf K) P w K mg base 12 (He.ga K "_law_rows_right") fd ["jar", "k", "rows"] 3 true g_f_law_rows_right := by
  obtain ⟨fd, F⟩ := c.def_ (st := tp 48) 24
  obtain ⟨fdH, FH⟩ := c.def_ (st := tp 43) 4
  have bH := FH.binds (ps := ["call"]) fun _ _ _ _ _ _ us hl => match us, hl with | [_], _ => rfl
  exact ⟨fd, F, fn_ok (kp := [0, 1, 2]) F sc_f_law_rows_right (by decide) (fun A outer s H E hr hgd =>
      (sss_cons (ss_set 3 sc_f_law_rows_right.nd (so_call (cal_f_law_qt_middle_row c tb) hr (by decide) (fun z => by cases z) takesC rfl (sa_cons (so_nm 1) (sa_cons (so_nm 2) sa_nil)) (len_cons (len_cons len_nil))))
      (sss_cons (ss_set 4 sc_f_law_rows_right.nd (so_lst (sa_cons (so_call (cal_f_law_middle c tb) hr (by decide) (fun z => by cases z) takesC rfl (sa_cons (so_nm 1) (sa_cons (so_nm 2) sa_nil)) (len_cons (len_cons len_nil))) (sa_cons (so_heardF (k := 9) (Pt := (He.cT K ("_law_rows_right", none)).2) rfl (c.glo 12) FH bH sc_f_law_qh_heard rfl (Or.inl rfl) (thru_gives (fun _ => rfl)) (tb ("_law_rows_right", none) (by decide)) rfl (ttab_mem (p := ("_law_rows_right", none)) (by decide)) (ttab_u c.says.more (p := ("_law_rows_right", none)) (by decide)) hr (by decide) (LamX.lamS_by (by kernel_rfl)) rfl (fun _ _ _ _ _ => rfl) (fun A2 outer2 s2 H2 E2 f2 c2 hr2 => (so_callK (calK_middle_row_rows_k c tb) hr2 (by decide) (fun z => by cases z) LamX.takes0 rfl (sk_cons (so_nm 2) (sk_cons (so_nm 1) sk_nil)) (len_cons (len_cons len_nil)) (fun l hl => match l, hl with | [_, _], _ => rfl)))) sa_nil)) (Len.le (len_cons (len_cons len_nil)) (by rw [sizeLine_eq]; decide))))
      (sss_cons (ss_if (st_cmp (op_neA (Room.u64 hr)) rn_neA (so_bi (call_reprD (hgd rfl) (Room.u80 hr)) rn_repr rfl (c.free 14) boot_repr (sa_cons (so_nm 4) sa_nil)) (so_bi (call_reprD (hgd rfl) (Room.u80 hr)) rn_repr rfl (c.free 14) boot_repr (sa_cons (so_bin op_mulA rn_mul (so_lst (sa_cons (so_tup (sa_cons so_str (sa_cons (so_nm 3) sa_nil)) (Len.le (len_cons (len_cons len_nil)) (by rw [sizeLine_eq]; decide))) sa_nil) (Len.le (len_cons len_nil) (by rw [sizeLine_eq]; decide))) so_int) sa_nil)) (nomark _)) (sss_one (ss_ret so_bl)) sss_nil)
      (sss_cons (ss_if (st_bool (sw_and (st_cmp op_lt rn_lt (so_bi call_len rn_len rfl (c.free 1) boot_len (sa_cons (so_nm 2) sa_nil)) so_int (nomark _)) (sw_and1 (st_cmp op_gt rn_gt (so_nm 1) so_int (nomark _))))) (sss_one (ss_ret (so_cmp (op_eqA (Room.u64 hr)) rn_eqA (so_bi (call_reprD (hgd rfl) (Room.u80 hr)) rn_repr rfl (c.free 14) boot_repr (sa_cons (so_call (cal_f_law_middle c tb) hr (by decide) (fun z => by cases z) takesC rfl (sa_cons (so_nm 1) (sa_cons (so_bin op_addA rn_add (so_tup (sa_cons (so_tup sa_nil (Len.le len_nil (by rw [sizeLine_eq]; decide))) (sa_cons (so_tup (sa_cons so_int sa_nil) (Len.le (len_cons len_nil) (by rw [sizeLine_eq]; decide))) sa_nil)) (Len.le (len_cons (len_cons len_nil)) (by rw [sizeLine_eq]; decide))) (so_nm 2)) sa_nil)) (len_cons (len_cons len_nil))) sa_nil)) (so_bi (call_reprD (hgd rfl) (Room.u80 hr)) rn_repr rfl (c.free 14) boot_repr (sa_cons (so_tup (sa_cons so_str (sa_cons (so_if (st_cmp op_isN rn_is (so_nm 3) so_non (nomark _)) so_non (so_bin op_addA rn_add (so_nm 3) so_int)) sa_nil)) (Len.le (len_cons (len_cons len_nil)) (by rw [sizeLine_eq]; decide))) sa_nil)) (nomark _)))) sss_nil)
      (sss_one (ss_ret so_bl))))))) (fun _ _ => rfl)⟩
theorem cal_f_law_rows_right (c : Hd fa fn tf w K h mg) (tb : ∀ p ∈ tf, LamX.TabB base mg (He.cT K p).1 (He.cT K p).2) : Cal (TTab tf K) P w K mg base 12 "_law_rows_right" 3 true g_f_law_rows_right := by
  obtain ⟨fd, F, G⟩ := ok_f_law_rows_right (P := P) (w := w) c tb
  exact G.cal (c.glo 38) F.kp (F.binds fun _ _ _ _ _ _ us hl => match us, hl with | [_, _, _], _ => rfl)
theorem ok_f_law_row (c : Hd fa fn tf w K h mg) (tb : ∀ p ∈ tf, LamX.TabB base mg (He.cT K p).1 (He.cT K p).2) : ∃ fd, Fn K "_law_row" "_law_row" (tp 44) (He.ga K "_law_row") fd (.ref (He.codeOf K ("_law_row", none))) ∧ FnG (TTab tf K) P w K mg base 3 (He.ga K "_law_row") fd ["jar", "k"] 2 false g_f_law_row := by
  obtain ⟨fd, F⟩ := c.def_ (st := tp 44) 25
  exact ⟨fd, F, fn_ok (kp := [0, 1]) F sc_f_law_row (by decide) (fun A outer s H E hr hgd =>
      (sss_cons (ss_set 2 sc_f_law_row.nd (so_call (cal_f_law_one c tb) hr (by decide) (fun z => by cases z) takesC rfl (sa_cons (so_nm 0) (sa_cons (so_lst (sa_cons so_int (sa_cons so_int (sa_cons so_int (sa_cons so_int (sa_cons so_int (sa_cons so_int (sa_cons so_int (sa_cons so_int (sa_cons so_int sa_nil))))))))) (Len.le (len_cons (len_cons (len_cons (len_cons (len_cons (len_cons (len_cons (len_cons (len_cons len_nil))))))))) (by rw [sizeLine_eq]; decide))) sa_nil)) (len_cons (len_cons len_nil))))
      (sss_cons (ss_set 3 sc_f_law_row.nd (so_bin op_fdivW rn_div (so_nm 1) so_int))
      (sss_cons (ss_set 4 sc_f_law_row.nd (so_lst (sa_cons so_int (sa_cons so_int (sa_cons (so_bin op_sub rn_sub (so_nm 3) so_int) (sa_cons (so_nm 3) (sa_cons (so_bin op_addA rn_add (so_nm 3) so_int) (sa_cons (so_bin op_addA rn_add (so_nm 3) so_int) (sa_cons (so_bin op_sub rn_sub (so_nm 1) so_int) (sa_cons (so_nm 1) (sa_cons (so_bin op_addA rn_add (so_nm 1) so_int) (sa_cons (so_bin op_addA rn_add so_int (so_call (cal_f_law_take c tb) hr (by decide) (fun z => by cases z) takesC rfl (sa_cons (so_nm 0) (sa_cons (so_nm 1) sa_nil)) (len_cons (len_cons len_nil)))) (sa_cons so_int sa_nil))))))))))) (Len.le (len_cons (len_cons (len_cons (len_cons (len_cons (len_cons (len_cons (len_cons (len_cons (len_cons (len_cons len_nil))))))))))) (by rw [sizeLine_eq]; decide))))
      (sss_cons (ss_set 4 sc_f_law_row.nd (so_lc (n := 7) (own := [("gap", 5)]) rfl sc_f_law_row.nd rfl (si_seq (js := [4]) (so_nm 4) slot_nm) (blkOk_by (by kernel_rfl)) (by decide) (fun _ _ _ _ _ => (sg_nm 5 sc_f_law_row.nd)) (fun _ _ _ _ _ => (sts_one (st_chain (f := fun i j => decide (i ≤ j)) (g := fun i j => decide (i ≤ j)) op_le op_le so_int (so_nm 5) so_int rfl))) (fun _ _ _ _ _ => (so_nm 5))))
      (sss_one (ss_ret (so_ty call_tuple_of rn_tuple rfl (c.free 3) boot_tuple (sa_cons (so_lc (n := 7) (own := [("at", 6)]) rfl sc_f_law_row.nd rfl (si_range1 (js := []) rfl (c.free 0) (sa_cons (so_nm 2) sa_nil) (len_cons len_nil)) (blkOk_by (by kernel_rfl)) (by decide) (fun _ _ _ _ _ => (sg_nm 6 sc_f_law_row.nd)) (fun _ _ _ _ _ => sts_nil) (fun _ _ _ _ _ => (so_call (cal_f_law_one c tb) hr (by decide) (fun z => by cases z) LamX.takes0 rfl (sa_cons (so_nm 0) (sa_cons (so_nm 4) sa_nil)) (len_cons (len_cons len_nil))))) sa_nil))))))))) (fun _ _ => rfl)⟩
theorem cal_f_law_row (c : Hd fa fn tf w K h mg) (tb : ∀ p ∈ tf, LamX.TabB base mg (He.cT K p).1 (He.cT K p).2) : Cal (TTab tf K) P w K mg base 3 "_law_row" 2 false g_f_law_row := by
  obtain ⟨fd, F, G⟩ := ok_f_law_row (P := P) (w := w) c tb
  exact G.cal (c.glo 39) F.kp (F.binds fun _ _ _ _ _ _ us hl => match us, hl with | [_, _], _ => rfl)
theorem ok_f_law_row_right (c : Hd fa fn tf w K h mg) (tb : ∀ p ∈ tf, LamX.TabB base mg (He.cT K p).1 (He.cT K p).2) : ∃ fd, Fn K "_law_row_right" "_law_row_right" (tp 47) (He.ga K "_law_row_right") fd (.ref (He.codeOf K ("_law_row_right", none))) ∧ FnG (TTab tf K) P w K mg base 12 (He.ga K "_law_row_right") fd ["jar", "k", "row"] 3 true g_f_law_row_right := by
  obtain ⟨fd, F⟩ := c.def_ (st := tp 47) 26
  obtain ⟨fdH, FH⟩ := c.def_ (st := tp 43) 4
  have bH := FH.binds (ps := ["call"]) fun _ _ _ _ _ _ us hl => match us, hl with | [_], _ => rfl
  exact ⟨fd, F, fn_ok (kp := [0, 1, 2]) F sc_f_law_row_right (by decide) (fun A outer s H E hr hgd =>
      (sss_cons (ss_set 3 sc_f_law_row_right.nd (so_call (cal_f_law_qt_sides c tb) hr (by decide) (fun z => by cases z) takesC rfl (sa_cons (so_nm 1) (sa_cons (so_nm 2) sa_nil)) (len_cons (len_cons len_nil))))
      (sss_cons (ss_set 4 sc_f_law_row_right.nd (so_if (st_cmp (op_neA (Room.u64 hr)) rn_neA (so_nm 2) (so_tup sa_nil (Len.le len_nil (by rw [sizeLine_eq]; decide))) (nomark _)) (so_call (cal_f_law_take c tb) hr (by decide) (fun z => by cases z) takesC rfl (sa_cons (so_nm 0) (sa_cons (so_bi call_len rn_len rfl (c.free 1) boot_len (sa_cons (so_nm 2) sa_nil)) sa_nil)) (len_cons (len_cons len_nil))) so_int))
      (sss_cons (ss_set 5 sc_f_law_row_right.nd (so_lst (sa_cons (so_call (cal_f_law_sides c tb) hr (by decide) (fun z => by cases z) takesC rfl (sa_cons (so_nm 1) (sa_cons (so_nm 2) sa_nil)) (len_cons (len_cons len_nil))) (sa_cons (so_call (cal_f_law_sides c tb) hr (by decide) (fun z => by cases z) takesC rfl (sa_cons (so_nm 1) (sa_cons (so_bin op_addA rn_add (so_slice sl_any rs_sl (so_nm 2) (sp_some (so_nm 4)) sp_none) (so_slice sl_any rs_sl (so_nm 2) sp_none (sp_some (so_nm 4)))) sa_nil)) (len_cons (len_cons len_nil))) (sa_cons (so_call (cal_f_law_sides c tb) hr (by decide) (fun z => by cases z) takesC rfl (sa_cons (so_nm 1) (sa_cons (so_rev (so_nm 2)) sa_nil)) (len_cons (len_cons len_nil))) sa_nil))) (Len.le (len_cons (len_cons (len_cons len_nil))) (by rw [sizeLine_eq]; decide))))
      (sss_cons (ss_expr (so_append 5 (so_heardF (k := 9) (Pt := (He.cT K ("_law_row_right", none)).2) rfl (c.glo 12) FH bH sc_f_law_qh_heard rfl (Or.inl rfl) (thru_gives (fun _ => rfl)) (tb ("_law_row_right", none) (by decide)) rfl (ttab_mem (p := ("_law_row_right", none)) (by decide)) (ttab_u c.says.more (p := ("_law_row_right", none)) (by decide)) hr (by decide) (LamX.lamS_by (by kernel_rfl)) rfl (fun _ _ _ _ _ => rfl) (fun A2 outer2 s2 H2 E2 f2 c2 hr2 => (so_callK (calK_sides_row_k c tb) hr2 (by decide) (fun z => by cases z) LamX.takes0 rfl (sk_cons (so_nm 2) (sk_cons (so_nm 1) sk_nil)) (len_cons (len_cons len_nil)) (fun l hl => match l, hl with | [_, _], _ => rfl))))))
      (sss_cons (ss_if (st_cmp (op_neA (Room.u64 hr)) rn_neA (so_bi (call_reprD (hgd rfl) (Room.u80 hr)) rn_repr rfl (c.free 14) boot_repr (sa_cons (so_nm 5) sa_nil)) (so_bi (call_reprD (hgd rfl) (Room.u80 hr)) rn_repr rfl (c.free 14) boot_repr (sa_cons (so_lst (sa_cons (so_tup (sa_cons so_str (sa_cons (so_nm 3) sa_nil)) (Len.le (len_cons (len_cons len_nil)) (by rw [sizeLine_eq]; decide))) (sa_cons (so_tup (sa_cons so_str (sa_cons (so_nm 3) sa_nil)) (Len.le (len_cons (len_cons len_nil)) (by rw [sizeLine_eq]; decide))) (sa_cons (so_tup (sa_cons so_str (sa_cons (so_rev (so_nm 3)) sa_nil)) (Len.le (len_cons (len_cons len_nil)) (by rw [sizeLine_eq]; decide))) (sa_cons (so_tup (sa_cons so_str (sa_cons (so_nm 3) sa_nil)) (Len.le (len_cons (len_cons len_nil)) (by rw [sizeLine_eq]; decide))) sa_nil)))) (Len.le (len_cons (len_cons (len_cons (len_cons len_nil)))) (by rw [sizeLine_eq]; decide))) sa_nil)) (nomark _)) (sss_one (ss_ret so_bl)) sss_nil)
      (sss_cons (ss_if (st_bool (sw_and (st_cmp op_lt rn_lt (so_bi call_len rn_len rfl (c.free 1) boot_len (sa_cons (so_nm 2) sa_nil)) so_int (nomark _)) (sw_and1 (st_cmp (op_neA (Room.u64 hr)) rn_neA (so_call (cal_f_law_sides c tb) hr (by decide) (fun z => by cases z) takesC rfl (sa_cons (so_nm 1) (sa_cons (so_bin op_mulA rn_mul (so_nm 2) so_int) sa_nil)) (len_cons (len_cons len_nil))) (so_tup (sa_cons so_str (sa_cons (so_nm 3) sa_nil)) (Len.le (len_cons (len_cons len_nil)) (by rw [sizeLine_eq]; decide))) (nomark _))))) (sss_one (ss_ret so_bl)) sss_nil)
      (sss_one (ss_ret (so_cmp (op_eqA (Room.u64 hr)) rn_eqA (so_bi (call_reprD (hgd rfl) (Room.u80 hr)) rn_repr rfl (c.free 14) boot_repr (sa_cons (so_call (cal_f_law_middle c tb) hr (by decide) (fun z => by cases z) takesC rfl (sa_cons (so_nm 1) (sa_cons (so_tup (sa_cons (so_nm 2) sa_nil) (Len.le (len_cons len_nil) (by rw [sizeLine_eq]; decide))) sa_nil)) (len_cons (len_cons len_nil))) sa_nil)) (so_bi (call_reprD (hgd rfl) (Room.u80 hr)) rn_repr rfl (c.free 14) boot_repr (sa_cons (so_tup (sa_cons so_str (sa_cons (so_if (st_val (so_call (cal_f_law_qt_is_middle c tb) hr (by decide) (fun z => by cases z) takesC rfl (sa_cons (so_nm 1) (sa_cons (so_nm 2) sa_nil)) (len_cons (len_cons len_nil)))) so_int so_non) sa_nil)) (Len.le (len_cons (len_cons len_nil)) (by rw [sizeLine_eq]; decide))) sa_nil)) (nomark _))))))))))) (fun _ _ => rfl)⟩
theorem cal_f_law_row_right (c : Hd fa fn tf w K h mg) (tb : ∀ p ∈ tf, LamX.TabB base mg (He.cT K p).1 (He.cT K p).2) : Cal (TTab tf K) P w K mg base 12 "_law_row_right" 3 true g_f_law_row_right := by
  obtain ⟨fd, F, G⟩ := ok_f_law_row_right (P := P) (w := w) c tb
  exact G.cal (c.glo 40) F.kp (F.binds fun _ _ _ _ _ _ us hl => match us, hl with | [_, _, _], _ => rfl)
theorem ok_law (c : Hd fa fn tf w K h mg) (tb : ∀ p ∈ tf, LamX.TabB base mg (He.cT K p).1 (He.cT K p).2) : ∃ fd, Fn K "law" "law" (tp 50) (He.ga K "law") fd (.ref (He.codeOf K ("law", none))) ∧ FnG (TTab tf K) P w K mg base 13 (He.ga K "law") fd ["script"] 1 true g_law := by
  obtain ⟨fd, F⟩ := c.def_ (st := tp 50) 27
  exact ⟨fd, F, fn_ok (kp := [0]) F sc_law (by decide) (fun A outer s H E hr hgd =>
      (sss_cons (ss_set 1 sc_law.nd (so_call (cal_f_law_pool c tb) hr (by decide) (fun z => by cases z) takesC rfl (sa_cons (so_nm 0) sa_nil) (len_cons len_nil)))
      (sss_cons (ss_for (passes_of rfl) rfl (si_range1 (js := []) rfl (c.free 0) (sa_cons so_int sa_nil) (len_cons len_nil)) (sg_nm 2 sc_law.nd)
      (sss_cons (ss_set 3 sc_law.nd (so_call (cal_f_law_qg_k c tb) hr (by decide) (fun z => by cases z) takesC rfl (sa_cons (so_nm 1) sa_nil) (len_cons len_nil)))
      (sss_cons (ss_set 4 sc_law.nd (so_ty call_tuple_of rn_tuple rfl (c.free 3) boot_tuple (sa_cons (so_lc (n := 8) (own := [("at", 6)]) rfl sc_law.nd rfl (si_range1 (js := []) rfl (c.free 0) (sa_cons (so_call (cal_f_law_one c tb) hr (by decide) (fun z => by cases z) takesC rfl (sa_cons (so_nm 1) (sa_cons (so_lst (sa_cons so_int (sa_cons so_int (sa_cons so_int (sa_cons so_int (sa_cons so_int sa_nil))))) (Len.le (len_cons (len_cons (len_cons (len_cons (len_cons len_nil))))) (by rw [sizeLine_eq]; decide))) sa_nil)) (len_cons (len_cons len_nil))) sa_nil) (len_cons len_nil)) (blkOk_by (by kernel_rfl)) (by decide) (fun _ _ _ _ _ => (sg_nm 6 sc_law.nd)) (fun _ _ _ _ _ => sts_nil) (fun _ _ _ _ _ => (so_call (cal_f_law_row c tb) hr (by decide) (fun z => by cases z) LamX.takes0 rfl (sa_cons (so_nm 1) (sa_cons (so_nm 3) sa_nil)) (len_cons (len_cons len_nil))))) sa_nil)))
      (sss_cons (ss_if (st_bool (sw_or (st_not (st_val (so_call (cal_f_law_row_right c tb) hr (by decide) (fun _ => hgd rfl) takesC rfl (sa_cons (so_nm 1) (sa_cons (so_nm 3) (sa_cons (so_call (cal_f_law_row c tb) hr (by decide) (fun z => by cases z) takesC rfl (sa_cons (so_nm 1) (sa_cons (so_nm 3) sa_nil)) (len_cons (len_cons len_nil))) sa_nil))) (len_cons (len_cons (len_cons len_nil)))))) (sw_or1 (st_not (st_val (so_call (cal_f_law_rows_right c tb) hr (by decide) (fun _ => hgd rfl) takesC rfl (sa_cons (so_nm 1) (sa_cons (so_nm 3) (sa_cons (so_nm 4) sa_nil))) (len_cons (len_cons (len_cons len_nil))))))))) (sss_one (ss_ret so_bl)) sss_nil)
      (sss_cons (ss_set 5 sc_law.nd (so_slice sl_any rs_sl (so_lc (n := 8) (own := [("row", 7)]) rfl sc_law.nd rfl (si_seq (js := [4]) (so_nm 4) slot_nm) (blkOk_by (by kernel_rfl)) (by decide) (fun _ _ _ _ _ => (sg_nm 7 sc_law.nd)) (fun _ _ _ _ _ => (sts_one (st_not (st_val (so_call (cal_f_law_qt_is_middle c tb) hr (by decide) (fun z => by cases z) LamX.takes0 rfl (sa_cons (so_nm 3) (sa_cons (so_nm 7) sa_nil)) (len_cons (len_cons len_nil))))))) (fun _ _ _ _ _ => (so_nm 7))) sp_none (sp_some so_int)))
      (sss_one (ss_if (st_not (st_val (so_call (cal_f_law_rows_right c tb) hr (by decide) (fun _ => hgd rfl) takesC rfl (sa_cons (so_nm 1) (sa_cons (so_nm 3) (sa_cons (so_ty call_tuple_of rn_tuple rfl (c.free 3) boot_tuple (sa_cons (so_bin op_addA rn_add (so_nm 5) (so_lst (sa_cons (so_tup (sa_cons so_int (sa_cons so_int sa_nil)) (Len.le (len_cons (len_cons len_nil)) (by rw [sizeLine_eq]; decide))) sa_nil) (Len.le (len_cons len_nil) (by rw [sizeLine_eq]; decide)))) sa_nil)) sa_nil))) (len_cons (len_cons (len_cons len_nil)))))) (sss_one (ss_ret so_bl)) sss_nil)))))))
      (sss_one (ss_ret (so_call0 (cal_f_law_bounds_right c tb) hr (by decide) (fun _ => hgd rfl) takesC rfl)))))) (fun _ _ => rfl)⟩
theorem cal_law (c : Hd fa fn tf w K h mg) (tb : ∀ p ∈ tf, LamX.TabB base mg (He.cT K p).1 (He.cT K p).2) : Cal (TTab tf K) P w K mg base 13 "law" 1 true g_law := by
  obtain ⟨fd, F, G⟩ := ok_law (P := P) (w := w) c tb
  exact G.cal (c.glo 41) F.kp (F.binds fun _ _ _ _ _ _ us hl => match us, hl with | [_], _ => rfl)
end
end K12
set_option maxHeartbeats 0
namespace K12
open PySem PySem.Spec PyProof.Rows L2 TQ
theorem lawG {w : World} {K : PySem.W.Frag} {h : Heap} {mg : Str → Option Value} {f : Addr} (c : Hd fa fn tf w K h mg) (hf : mg "law" = some (.ref f)) : LawG PySem.Challenge.pw_toldquiet_k12_the_middle_row_and_sides w K 13 63 "script" mg f h :=
  lawG_of (st := tp 50) c hf (c.glo 41) (c.def_ 27) (fun fd F => F.bind1 fun _ _ _ _ _ _ _ => rfl) (fun base tb => ok_law c tb) value
end K12
open PySem PySem.W PySem.Calls PyProof.Rows
theorem PySem.Challenge.cw_toldquiet_k12_the_middle_row_and_sides_holds : PySem.Challenge.rw_toldquiet_k12_the_middle_row_and_sides.Holds := by
  w_on; o_law
  refine HandSHeadRun.head_any (r := OpenLaw.row PySem.Challenge.rw_toldquiet_k12_the_middle_row_and_sides) (q := view (OpenLaw.row PySem.Challenge.rw_toldquiet_k12_the_middle_row_and_sides).prog [50]) (H := K12.hk) (ob := K12.ob) (M := 60000) (loose := K12.names) (d := HandSHeadRun.topDef (OpenLaw.row PySem.Challenge.rw_toldquiet_k12_the_middle_row_and_sides).prog 50) (kwd := []) K12.ob_eq
    (by kernel_rfl) (fun s => by kernel_rfl) K12.run (by kernel_rfl) (by kernel_rfl) (by kernel_rfl) (by rfl) (by first | assumption | decide +kernel) (by decide +kernel) ⟨rfl, rfl, rfl, rfl, rfl, by decide +kernel⟩ ?hw ?hc
  case hw => w_witness2
  case hc =>
    refine TQ.walk_ofG (l := PySem.Challenge.rw_toldquiet_k12_the_middle_row_and_sides) (n := 63) (k := 13) (x := "script") rfl (by decide) (by kernel_rfl) ⟨rfl, by decide, by decide⟩ rfl ?F
    intro w mg fa h Y G hmg0
    obtain ⟨K, KX, c⟩ := Y
    have hmg : mg ("law" : PySem.Str) = some (.ref fa) := by
      have e : (HandSHeadRun.topDef (OpenLaw.row PySem.Challenge.rw_toldquiet_k12_the_middle_row_and_sides).prog 50).name = ("law" : PySem.Str) := by kernel_rfl
      rw [← e]
      exact hmg0
    exact ⟨K, KX, K12.lawG ⟨KX, G, c⟩ hmg⟩
