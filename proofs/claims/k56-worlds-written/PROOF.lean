import PyProof.Rows.All
import Wide.All
import OpenK.AllK
import Wide.FinOn
import HandS.ForMost
import HandS.ForExc
import HandS.IsInst
import HandS.Zip
import HandS.Wide
import HandS.SetKeys
import HandS.Strs
import HandS.Deep
import HandS.StrMore
import HandS.Style
import HandS.TupLe
import PyProof.Rows.RuleB_pow
import HandS.Sort
import HandS.Defaults
import HandS.SortOrd
import HandS.SortRule
import PyProof.Rows.SetFrom
import HandS.ExcOwn
import HandS.Ends
import HandS.HeadEnd
import HandS.Head0
import HandS.Head1
import HandS.Head2
import HandS.HeadHook1
import HandS.HeadHook2
import HandS.HeadHook4
import PySem.Challenge.RW_heardahead_k56_worlds_written
import PyProof.ReprLen
import PyProof.P3Eq
set_option Elab.async false
set_option linter.all false
set_option maxRecDepth 100000
namespace DL
open PySem L2

/-! # data -/
inductive D where
  | non | bl (b : Bool) | int (i : Int) | str (x : List Nat) | tup (ds : List D) | lst (ds : List D) | ref (a : Addr)
  deriving Inhabited
abbrev SD := List (Option D)
inductive Cell where
  | lst (ds : List D)
  | ins (c : Nat) (fs : List (Nat × D))
abbrev En := Addr → Option Cell
abbrev XP := Nat → SD → En → Prop
abbrev QE := D → En → Prop
abbrev TD := SD → En → QE → XP → Prop
def En.set (E : En) (p : Addr) (c : Cell) : En := fun a => if a = p then some c else E a
def En.del (E : En) (p : Addr) : En := fun a => if a = p then none else E a
def En.le (E F : En) : Prop := ∀ a c, E a = some c → F a = some c
theorem En.le_refl (E : En) : E.le E := fun _ _ h => h
theorem En.set_same (E : En) (p : Addr) (c : Cell) : E.set p c p = some c := if_pos rfl
theorem En.set_ne (E : En) {p q : Addr} (c : Cell) (h : q ≠ p) : E.set p c q = E q := if_neg h
theorem En.del_le (E : En) (p : Addr) : (E.del p).le E := fun a c h => by
  unfold En.del at h
  by_cases q : a = p
  · rw [if_pos q] at h; cases h
  · rw [if_neg q] at h; exact h
def toS (x : List Nat) : Str := ⟨x.toArray⟩

/-- a frozen list -/
def KL (K : PySem.W.Frag) (a : Addr) (vs : List V) : Prop := ∃ (its : List Value) (n : Nat), K.lookup a = some { cls := .type "list", data := .seq its.toArray n } ∧ vs.length ≤ sizeLine ∧ Vals vs its
def FzL (K : PySem.W.Frag) (H : Hp) (a : Addr) (vs : List V) : Prop := (∃ o, H a = some (.frz o (.lst vs))) ∨ KL K a vs
/-- a list that may be read -/
def RdK (K : PySem.W.Frag) (H : Hp) (a : Addr) (vs : List V) : Prop := Rd H a (.lst vs) ∨ KL K a vs
theorem KL.sq {K : PySem.W.Frag} {H : Hp} {a : Addr} {vs : List V} (h : KL K a vs) : SqL K H a vs := by
  obtain ⟨its, n, e, z, r⟩ := h
  exact .inr ⟨_, its.toArray, n, e, rfl, rfl, rfl, by rw [List.size_toArray, ← r.length]; exact z, r⟩
theorem RdK.sq {K K' : PySem.W.Frag} {H : Hp} {a : Addr} {vs : List V} (h : RdK K H a vs) (hK : K' = K) : SqL K' H a vs := by
  subst hK
  exact h.elim .inl KL.sq
theorem FzL.rd {K : PySem.W.Frag} {H : Hp} {a : Addr} {vs : List V} (h : FzL K H a vs) : RdK K H a vs := h.elim (fun z => .inl (.inr z)) .inr
theorem FzL.sq {K : PySem.W.Frag} {H : Hp} {a : Addr} {vs : List V} (h : FzL K H a vs) : SqL K H a vs := h.rd.sq rfl
mutual
def RD (K : PySem.W.Frag) (H : Hp) : D → V → Prop
  | .non, v => v = .non
  | .bl b, v => v = .bl b
  | .int i, v => v = .int i
  | .str x, v => v = .str (toS x)
  | .tup ds, v => ∃ a vs, v = .ref a ∧ SqT K H a vs ∧ RDs K H ds vs
  | .lst ds, v => ∃ a vs, v = .ref a ∧ FzL K H a vs ∧ RDs K H ds vs
  | .ref a, v => v = .ref a
def RDs (K : PySem.W.Frag) (H : Hp) : List D → List V → Prop
  | [], vs => vs = []
  | d :: ds, vs => ∃ v r, vs = v :: r ∧ RD K H d v ∧ RDs K H ds r
end
/-- what stands for ever -/
structure Grow (H H' : Hp) : Prop where
  tup : ∀ b xs, H b = some (.tup xs) → H' b = some (.tup xs)
  frz : ∀ b o u, H b = some (.frz o u) → H' b = some (.frz o u)
theorem Grow.refl (H : Hp) : Grow H H := ⟨fun _ _ h => h, fun _ _ _ h => h⟩
theorem Grow.trans {H H1 H2 : Hp} (a : Grow H H1) (b : Grow H1 H2) : Grow H H2 := ⟨fun c xs h => b.tup c xs (a.tup c xs h), fun c o u h => b.frz c o u (a.frz c o u h)⟩
theorem Grow.new {H : Hp} {p : Addr} {o : HO} (h : H p = none) : Grow H (upd H p o) :=
  ⟨fun b xs q => by rw [upd_ne (ne_of_none q h)]; exact q, fun b o u q => by rw [upd_ne (ne_of_none q h)]; exact q⟩
theorem Grow.mut {H : Hp} {p : Addr} {o : HO} (h : Mut (H p)) : Grow H (upd H p o) :=
  ⟨fun b xs q => by rw [upd_ne (fun z => by subst z; rw [q] at h; exact h)]; exact q, fun b o u q => by rw [upd_ne (fun z => by subst z; rw [q] at h; exact h)]; exact q⟩
theorem Grow.sqT {K : PySem.W.Frag} {H H' : Hp} (g : Grow H H') {a : Addr} {vs : List V} (h : SqT K H a vs) : SqT K H' a vs := by
  rcases h with (h | ⟨o, h⟩) | h
  · exact .inl (.inl (g.tup _ _ h))
  · exact .inl (.inr ⟨o, g.frz _ _ _ h⟩)
  · exact .inr h
theorem Grow.fzL {K : PySem.W.Frag} {H H' : Hp} (g : Grow H H') {a : Addr} {vs : List V} (h : FzL K H a vs) : FzL K H' a vs :=
  h.elim (fun ⟨o, h⟩ => .inl ⟨o, g.frz _ _ _ h⟩) .inr
section
variable {K : PySem.W.Frag} {H H' : Hp}
mutual
theorem RD.grow (g : Grow H H') : ∀ {d : D} {v : V}, RD K H d v → RD K H' d v
  | .non, _, h => by unfold RD at *; exact h
  | .bl _, _, h => by unfold RD at *; exact h
  | .int _, _, h => by unfold RD at *; exact h
  | .str _, _, h => by unfold RD at *; exact h
  | .ref _, _, h => by unfold RD at *; exact h
  | .tup ds, _, h => by unfold RD at *; obtain ⟨a, vs, e, q, r⟩ := h; exact ⟨a, vs, e, g.sqT q, RDs.grow g r⟩
  | .lst ds, _, h => by unfold RD at *; obtain ⟨a, vs, e, q, r⟩ := h; exact ⟨a, vs, e, g.fzL q, RDs.grow g r⟩
theorem RDs.grow (g : Grow H H') : ∀ {ds : List D} {vs : List V}, RDs K H ds vs → RDs K H' ds vs
  | [], _, h => by unfold RDs at *; exact h
  | d :: ds, _, h => by unfold RDs at *; obtain ⟨v, r, e, q, q2⟩ := h; exact ⟨v, r, e, RD.grow g q, RDs.grow g q2⟩
end
theorem RDs.length : ∀ {ds : List D} {vs : List V}, RDs K H ds vs → vs.length = ds.length
  | [], _, h => by unfold RDs at h; subst h; rfl
  | d :: ds, _, h => by unfold RDs at h; obtain ⟨v, r, e, _, q⟩ := h; subst e; rw [List.length_cons, List.length_cons, RDs.length q]
theorem RDs.get : ∀ {ds : List D} {vs : List V} {i : Nat} {d : D}, RDs K H ds vs → ds[i]? = some d → ∃ v, vs[i]? = some v ∧ RD K H d v
  | [], _, _, _, _, e => by simp at e
  | d :: ds, _, 0, x, h, e => by
    unfold RDs at h; obtain ⟨v, r, e1, q, _⟩ := h; subst e1
    simp at e; subst e; exact ⟨v, rfl, q⟩
  | d :: ds, _, i + 1, x, h, e => by
    unfold RDs at h; obtain ⟨v, r, e1, _, q⟩ := h; subst e1
    obtain ⟨v', h1, h2⟩ := RDs.get q (i := i) (by simpa using e)
    exact ⟨v', by simpa using h1, h2⟩
theorem RDs.nil : RDs K H [] [] := by unfold RDs; rfl
theorem RDs.cons {d : D} {v : V} {ds : List D} {vs : List V} (h : RD K H d v) (r : RDs K H ds vs) : RDs K H (d :: ds) (v :: vs) := by unfold RDs; exact ⟨v, vs, rfl, h, r⟩
theorem RDs.append : ∀ {ds es : List D} {vs ws : List V}, RDs K H ds vs → RDs K H es ws → RDs K H (ds ++ es) (vs ++ ws)
  | [], _, _, _, h, q => by unfold RDs at h; subst h; exact q
  | d :: ds, _, _, _, h, q => by unfold RDs at h; obtain ⟨v, r, e, h1, h2⟩ := h; subst e; exact .cons h1 (RDs.append h2 q)
theorem RDs.drop : ∀ {ds : List D} {vs : List V} (n : Nat), RDs K H ds vs → RDs K H (ds.drop n) (vs.drop n)
  | _, _, 0, h => h
  | [], _, n + 1, h => by unfold RDs at h; subst h; exact .nil
  | d :: ds, _, n + 1, h => by unfold RDs at h; obtain ⟨v, r, e, h1, h2⟩ := h; subst e; exact RDs.drop n h2
theorem RDs.take : ∀ {ds : List D} {vs : List V} (n : Nat), RDs K H ds vs → RDs K H (ds.take n) (vs.take n)
  | _, _, 0, _ => .nil
  | [], _, n + 1, h => by unfold RDs at h; subst h; exact .nil
  | d :: ds, _, n + 1, h => by unfold RDs at h; obtain ⟨v, r, e, h1, h2⟩ := h; subst e; exact .cons h1 (RDs.take n h2)
theorem RDs.set {x : D} {w : V} (hx : RD K H x w) : ∀ {ds : List D} {vs : List V} (n : Nat), RDs K H ds vs → RDs K H (ds.set n x) (vs.set n w)
  | [], _, _, h => by unfold RDs at h; subst h; exact .nil
  | d :: ds, _, 0, h => by unfold RDs at h; obtain ⟨v, r, e, h1, h2⟩ := h; subst e; exact .cons hx h2
  | d :: ds, _, n + 1, h => by unfold RDs at h; obtain ⟨v, r, e, h1, h2⟩ := h; subst e; exact .cons h1 (RDs.set hx n h2)
end
/-- what stands at a cell -/
def RC (K : PySem.W.Frag) (cl : Nat → Addr) (fn : Nat → Str) (H : Hp) (a : Addr) : Cell → Prop
  | .lst ds => ∃ vs, H a = some (.lst vs) ∧ RDs K H ds vs
  | .ins c fs => ∃ dx fv, H a = some (.ins (cl c) dx fv) ∧ fv.length ≤ 900 ∧ ∀ f, (∀ d, fs.lookup f = some d → ∃ v, fv.lookup (fn f) = some v ∧ RD K H d v)
/-- the tables of a program: addresses of classes, names of fields -/
structure Tb where
  K : PySem.W.Frag
  cl : Nat → Addr
  fn : Nat → Str
section
variable (T : Tb)
def RE (H : Hp) (E : En) : Prop := ∀ a c, E a = some c → RC T.K T.cl T.fn H a c
def RS (H : Hp) (s : SD) (σ : St) : Prop := s.length = σ.length ∧ ∀ (i : Nat) (d : D), s[i]? = some (some d) → ∃ v, σ[i]? = some (some v) ∧ RD T.K H d v
end
section
variable {T : Tb} {H H' : Hp} {s : SD} {σ : St} {E F : En}
theorem RS.grow (g : Grow H H') (h : RS T H s σ) : RS T H' s σ := ⟨h.1, fun i d e => let ⟨v, a, b⟩ := h.2 i d e; ⟨v, a, b.grow g⟩⟩
theorem RE.le (h : RE T H F) (l : E.le F) : RE T H E := fun a c e => h a c (l a c e)
theorem RE.mut (h : RE T H E) {a : Addr} {c : Cell} (e : E a = some c) : Mut (H a) := by
  have q := h a c e
  cases c with
  | lst ds => obtain ⟨vs, z, _⟩ := q; rw [z]; trivial
  | ins c fs => obtain ⟨dx, fv, z, _⟩ := q; rw [z]; trivial
theorem RE.free (h : RE T H E) {p : Addr} (hp : H p = none) : E p = none := by
  cases e : E p with
  | none => rfl
  | some c => have q := h.mut e; rw [hp] at q; exact q.elim
theorem RC.upd {a p : Addr} {c : Cell} {o : HO} (h : RC T.K T.cl T.fn H a c) (hn : a ≠ p) (g : Grow H (upd H p o)) : RC T.K T.cl T.fn (upd H p o) a c := by
  cases c with
  | lst ds => obtain ⟨vs, z, r⟩ := h; exact ⟨vs, by rw [upd_ne hn]; exact z, r.grow g⟩
  | ins c fs => obtain ⟨dx, fv, z, l, r⟩ := h; exact ⟨dx, fv, by rw [upd_ne hn]; exact z, l, fun f d e => let ⟨v, a, b⟩ := r f d e; ⟨v, a, b.grow g⟩⟩
/-- a new object that the cells don't know -/
theorem RE.new (h : RE T H E) {p : Addr} {o : HO} (hp : H p = none) : RE T (upd H p o) E := fun a c e => by
  have hn : a ≠ p := fun z => by subst z; rw [h.free hp] at e; cases e
  exact (h a c e).upd hn (.new hp)
/-- a new cell -/
theorem RE.newL (h : RE T H E) {p : Addr} {ds : List D} {vs : List V} (hp : H p = none) (r : RDs T.K H ds vs) : RE T (upd H p (.lst vs)) (E.set p (.lst ds)) := fun a c e => by
  by_cases hn : a = p
  · subst hn
    rw [En.set_same] at e
    cases e
    exact ⟨vs, upd_same, r.grow (.new hp)⟩
  · rw [En.set_ne _ _ hn] at e
    exact (h a c e).upd hn (.new hp)
/-- a cell changed -/
theorem RE.setL (h : RE T H E) {p : Addr} {ds : List D} {vs : List V} (hm : Mut (H p)) (r : RDs T.K H ds vs) : RE T (upd H p (.lst vs)) (E.set p (.lst ds)) := fun a c e => by
  by_cases hn : a = p
  · subst hn
    rw [En.set_same] at e
    cases e
    exact ⟨vs, upd_same, r.grow (.mut hm)⟩
  · rw [En.set_ne _ _ hn] at e
    exact (h a c e).upd hn (.mut hm)
/-- an object changed that is no cell (any more) -/
theorem RE.del (h : RE T H E) {p : Addr} {o : HO} (hm : Mut (H p)) : RE T (upd H p o) (E.del p) := fun a c e => by
  unfold En.del at e
  by_cases hn : a = p
  · rw [if_pos hn] at e; cases e
  · rw [if_neg hn] at e
    exact (h a c e).upd hn (.mut hm)
end


/-! # a step: what is no cell stands -/
structure Stp (E : En) (H : Hp) (E' : En) (H' : Hp) : Prop where
  g : Grow H H'
  frm : ∀ a u, H a = some u → E a = none → H' a = some u
  dom : ∀ a u, H a = some u → E a = none → E' a = none
theorem Stp.refl (E : En) (H : Hp) : Stp E H E H := ⟨.refl H, fun _ _ h _ => h, fun _ _ _ h => h⟩
theorem Stp.trans {E E1 E2 : En} {H H1 H2 : Hp} (a : Stp E H E1 H1) (b : Stp E1 H1 E2 H2) : Stp E H E2 H2 :=
  ⟨a.g.trans b.g, fun c u h e => b.frm c u (a.frm c u h e) (a.dom c u h e), fun c u h e => b.dom c u (a.frm c u h e) (a.dom c u h e)⟩
theorem Stp.new {E : En} {H : Hp} {p : Addr} {o : HO} (hp : H p = none) : Stp E H E (upd H p o) :=
  ⟨.new hp, fun a u h _ => by rw [upd_ne (ne_of_none h hp)]; exact h, fun _ _ _ h => h⟩
theorem Stp.newC {E : En} {H : Hp} {p : Addr} {o : HO} {c : Cell} (hp : H p = none) : Stp E H (E.set p c) (upd H p o) :=
  ⟨.new hp, fun a u h _ => by rw [upd_ne (ne_of_none h hp)]; exact h, fun a u h e => by rw [En.set_ne _ _ (ne_of_none h hp)]; exact e⟩
theorem Stp.put {E : En} {H : Hp} {p : Addr} {o : HO} {c c' : Cell} (hm : Mut (H p)) (e : E p = some c) : Stp E H (E.set p c') (upd H p o) :=
  ⟨.mut hm, fun a u h e' => by rw [upd_ne (fun z => by subst z; rw [e] at e'; cases e')]; exact h, fun a u h e' => by rw [En.set_ne _ _ (fun z => by subst z; rw [e] at e'; cases e')]; exact e'⟩
theorem Stp.del {E : En} {H : Hp} {p : Addr} {o : HO} {c : Cell} (hm : Mut (H p)) (e : E p = some c) : Stp E H (E.del p) (upd H p o) :=
  ⟨.mut hm, fun a u h e' => by rw [upd_ne (fun z => by subst z; rw [e] at e'; cases e')]; exact h, fun a u h e' => by
    unfold En.del
    by_cases q : a = p
    · rw [if_pos q]
    · rw [if_neg q]; exact e'⟩
theorem Stp.le {E E1 E2 : En} {H H1 : Hp} (a : Stp E H E1 H1) (l : E2.le E1) : Stp E H E2 H1 :=
  ⟨a.g, a.frm, fun c u h e => by
    cases q : E2 c with
    | none => rfl
    | some z => have := a.dom c u h e; rw [l c z q] at this; cases this⟩

/-! # lifts -/
section
variable (T : Tb) (W : WX)
def XOk (E : En) (H : Hp) (x : XP) : Prop := ∀ c s' E' σ' H', Stp E H E' H' → RS T H' s' σ' → RE T H' E' → x c s' E' → W (.ref (T.cl c)) none σ' H'
def LE (t : TD) : TE := fun σ H Q => ∃ s E q x, RS T H s σ ∧ RE T H E ∧ t s E q x ∧ (∀ d E' v H', Stp E H E' H' → RE T H' E' → RD T.K H' d v → q d E' → Q v H') ∧ XOk T W E H x
abbrev TTD := SD → En → (Bool → En → Prop) → XP → Prop
def LT (t : TTD) : TT := fun σ H Q => ∃ s E q x, RS T H s σ ∧ RE T H E ∧ t s E q x ∧ (∀ b E' H', Stp E H E' H' → RE T H' E' → q b E' → Q b H') ∧ XOk T W E H x
abbrev TAD := SD → En → (List D → En → Prop) → XP → Prop
def LA (t : TAD) : TA := fun σ H Q => ∃ s E q x, RS T H s σ ∧ RE T H E ∧ t s E q x ∧ (∀ ds E' vs H', Stp E H E' H' → RE T H' E' → RDs T.K H' ds vs → q ds E' → Q vs H') ∧ XOk T W E H x
structure EndD where
  nx : SD → En → Prop
  rt : D → En → Prop
  x : XP
abbrev TSD := EndD → SD → En → Prop
structure EOk (E : En) (H : Hp) (D' : EndD) (D : Ends) : Prop where
  nx : ∀ s' E' σ' H', Stp E H E' H' → RS T H' s' σ' → RE T H' E' → D'.nx s' E' → D.nx σ' H'
  rt : ∀ d E' v H', Stp E H E' H' → RE T H' E' → RD T.K H' d v → D'.rt d E' → D.rt v H'
  x : XOk T W E H D'.x
def LS (t : TSD) : TS := fun D σ H => ∃ s E D', RS T H s σ ∧ RE T H E ∧ t D' s E ∧ EOk T W E H D' D
end
section
variable {T : Tb} {W : WX} {E E' : En} {H H' : Hp}
theorem XOk.step {x : XP} (h : XOk T W E H x) (g : Stp E H E' H') : XOk T W E' H' x := fun c s' E2 σ' H2 g2 => h c s' E2 σ' H2 (g.trans g2)
theorem EOk.step {D' : EndD} {D : Ends} (h : EOk T W E H D' D) (g : Stp E H E' H') : EOk T W E' H' D' D :=
  ⟨fun s' E' σ' H2 g2 => h.nx s' E' σ' H2 (g.trans g2), fun d E' v H2 g2 => h.rt d E' v H2 (g.trans g2), h.x.step g⟩
end
/-! # weakening a reading -/
theorem PE.imp {X : Cx} {e : Expr} {t t' : TE} (h : PE X e t) (i : ∀ σ H Q, t' σ H Q → t σ H Q) : PE X e t' := ⟨fun pins s σ H Q I q => h.run pins s σ H Q I (i _ _ _ q)⟩
theorem PT.imp {X : Cx} {e : Expr} {t t' : TT} (h : PT X e t) (i : ∀ σ H Q, t' σ H Q → t σ H Q) : PT X e t' := ⟨fun pins s σ H Q I q => h.run pins s σ H Q I (i _ _ _ q)⟩
theorem PA.imp {X : Cx} {e : List Expr} {t t' : TA} (h : PA X e t) (i : ∀ σ H Q, t' σ H Q → t σ H Q) : PA X e t' := ⟨fun pos pins s σ H Q I q => h.run pos pins s σ H Q I (i _ _ _ q)⟩
theorem PS.imp {X : Cx} {e : Stmt} {t t' : TS} (h : PS X e t) (i : ∀ D σ H, t' D σ H → t D σ H) : PS X e t' := ⟨fun pins s σ H D I q => h.run pins s σ H D I (i _ _ _ q)⟩
theorem PSs.imp {X : Cx} {e : List Stmt} {t t' : TS} (h : PSs X e t) (i : ∀ D σ H, t' D σ H → t D σ H) : PSs X e t' := ⟨fun pins s σ H D I q => h.run pins s σ H D I (i _ _ _ q)⟩
/-- a new list may be frozen at once -/
def QF (Q : VK) : VK := fun v H' => Q v H' ∨ ∃ p vs, v = .ref p ∧ H' p = some (.lst vs) ∧ ∀ o, Q v (upd H' p (.frz o (.lst vs)))
theorem EP.fz {X : Cx} {pins : List (Addr × Obj)} {σ : St} {Q : VK} {u : Value} {s' : Shared} (h : EP X pins σ (QF Q) u s') : EP X pins σ Q u s' := by
  obtain ⟨v, H', I, r, q⟩ := h
  rcases q with q | ⟨p, vs, rfl, hp, q⟩
  · exact ⟨v, H', I, r, q⟩
  · obtain ⟨od, I2⟩ := I.lock hp trivial
    exact ⟨_, _, I2, r, q od⟩
theorem PE.fz {X : Cx} {e : Expr} {t : TE} (h : PE X e t) : PE X e (fun σ H Q => t σ H (QF Q)) := ⟨fun pins s σ H Q I q => thn (h.run pins s σ H _ I q) fun _ _ z => EP.fz z⟩
abbrev DE (X : Cx) (T : Tb) (W : WX) (e : Expr) (t : TD) : Prop := PE X e (LE T W t)
abbrev DT (X : Cx) (T : Tb) (W : WX) (e : Expr) (t : TTD) : Prop := PT X e (LT T W t)
abbrev DA (X : Cx) (T : Tb) (W : WX) (e : List Expr) (t : TAD) : Prop := PA X e (LA T W t)
abbrev DS (X : Cx) (T : Tb) (W : WX) (e : Stmt) (t : TSD) : Prop := PS X e (LS T W t)
abbrev DSs (X : Cx) (T : Tb) (W : WX) (e : List Stmt) (t : TSD) : Prop := PSs X e (LS T W t)
end DL

set_option Elab.async false
set_option linter.all false
set_option maxRecDepth 100000
namespace DL
open PySem L2

/-! # the subset -/
inductive Bop where | add | sub | mul | mod | fdiv | pow deriving DecidableEq
inductive Cop where | eq | ne | lt | le | gt | ge | is | isn | isin | nin deriving DecidableEq
inductive Ty where | int | bool | str | list | tuple | dict deriving DecidableEq
inductive Bi where | len | all | any | abs | max2 | min2 | int | str | repr | sorted | list | tuple deriving DecidableEq
inductive Bm where | append | pop1 | clear | join | split | endswith | index | count | strip | extend deriving DecidableEq
mutual
inductive Ex where
  | var (i : Nat)
  | glb (g : Nat)
  | non | bl (b : Bool) | int (i : Int) | str (x : List Nat)
  | tup (es : Exs)
  | lst (m : Bool) (es : Exs)
  | bin (op : Bop) (m : Bool) (a b : Ex)
  | neg (a : Ex)
  | cmp (op : Cop) (a b : Ex)
  | chn (op op2 : Cop) (a b c : Ex)
  | and (a b : Ex) | or (a b : Ex) | not (a : Ex)
  | ite (c : Tx) (a b : Ex)
  | call (f : Nat) (es : Exs)
  | bi (b : Bi) (m : Bool) (es : Exs)
  | isi (a : Ex) (t : Ty)
  | bm (b : Bm) (m : Bool) (o : Ex) (es : Exs)
  | ix (a i : Ex)
  | sl (m : Bool) (a : Ex) (lo hi : Exs)
  | rev (m : Bool) (a : Ex)
  | lc (m : Bool) (own : List Nat) (e : Ex) (t : Tg) (it : Iz) (c : Txs)
  | lenset (a : Ex)
  | fz (a : Ex)
inductive Exs where | nil | cons (e : Ex) (es : Exs)
inductive Tx where | val (e : Ex) | and (a b : Tx) | or (a b : Tx) | not (a : Tx)
inductive Txs where | nil | one (t : Tx)
inductive Tg where | nm (i : Nat) | tup (ts : Tgs) | sub (o i : Ex)
inductive Tgs where | nil | cons (t : Tg) (ts : Tgs)
inductive Iz where | seq (e : Ex) | rng1 (e : Ex) | rng2 (a b : Ex)
end
mutual
inductive Sm where
  | exp (e : Ex)
  | asg (t : Tg) (e : Ex)
  | aug (i : Nat) (op : Bop) (e : Ex)
  | ret (e : Ex) | retn | pass
  | ite (c : Tx) (a b : Sms)
  | for (t : Tg) (it : Iz) (b : Sms)
  | whl (c : Tx) (b : Sms)
  | rse (c : Nat)
inductive Sms where | nil | cons (s : Sm) (ss : Sms)
end

/-! # values -/
def lv (E : En) : D → Option (List D)
  | .lst ds => some ds
  | .ref a => match E a with
    | some (.lst ds) => some ds
    | _ => none
  | _ => none
def newL (m : Bool) (ds : List D) (E : En) (q : QE) : Prop := ds.length ≤ 16777216 ∧ if m = true then ∀ p, E p = none → q (.ref p) (E.set p (.lst ds)) else q (.lst ds) E
section deep
variable (E : En) (r : D → Option PyData)
mutual
def dpF : D → Option PyData
  | .non => some .none
  | .bl b => some (.bool b)
  | .int i => some (.int i)
  | .str x => some (.str (toS x))
  | .tup ds => (dpFs ds).map .tuple
  | .lst ds => (dpFs ds).map .list
  | .ref a => match E a with
    | some (.lst ds) => (ds.mapM r).map .list
    | _ => none
def dpFs : List D → Option (List PyData)
  | [] => some []
  | d :: ds => match dpF d, dpFs ds with
    | some p, some ps => some (p :: ps)
    | _, _ => none
end
end deep
def dp (E : En) : Nat → D → Option PyData
  | 0 => dpF E fun _ => none
  | n + 1 => dpF E (dp E n)
/-- == of the plain ones -/
def scq : D → D → Option Bool
  | .non, .non => some true | .non, .int _ => some false | .int _, .non => some false | .non, .bl _ => some false | .bl _, .non => some false
  | .non, .str _ => some false | .str _, .non => some false | .int i, .int j => some (i == j) | .bl a, .bl b => some (a == b) | .str x, .str y => some (x == y)
  | .int _, .str _ => some false | .str _, .int _ => some false | .bl _, .str _ => some false | .str _, .bl _ => some false
  | _, _ => none
def eqR (E : En) (x y : D) (k : Bool → Prop) : Prop := match scq x y with
  | some b => k b
  | none => match dp E 4 x, dp E 4 y with
    | some p, some p' => SeqAt.shaped p = true ∧ SeqAt.shaped p' = true ∧ k (PyData.eqv p p')
    | _, _ => False
def ltS (x y : List Nat) : Bool := decide (x < y)
def flat : D → Bool
  | .non => true | .bl _ => true | .int _ => true | .str _ => true | _ => false
def eqF : D → D → Bool
  | .non, .non => true
  | .bl a, .bl b => a == b
  | .bl a, .int b => (if a then 1 else 0) == b
  | .int a, .bl b => a == (if b then 1 else 0)
  | .int a, .int b => a == b
  | .str a, .str b => a == b
  | _, _ => false
/-- y a list or a tuple of flat items, or a text and x a sign; or data -/
def inR (E : En) (x y : D) (k : Bool → Prop) : Prop := match y with
  | .str b => match x with
    | .str [c] => k (decide (c ∈ b))
    | _ => False
  | .tup ds => flat x = true ∧ ds.all flat = true ∧ k (ds.any fun z => eqF z x)
  | y => match lv E y with
    | some ds => if flat x && ds.all flat then k (ds.any fun z => eqF z x) else match dp E 4 x, dp E 4 y with
      | some p, some (.list ps) => SeqAt.shaped p = true ∧ SeqAt.shaped (.list ps) = true ∧ k (ps.any fun z => PyData.eqv z p)
      | _, _ => False
    | none => False
def cmpR (op : Cop) (E : En) (x y : D) (k : Bool → Prop) : Prop := match op with
  | .eq => eqR E x y k
  | .ne => eqR E x y fun b => k (!b)
  | .lt => match x, y with
    | .int i, .int j => k (decide (i < j))
    | .str a, .str b => k (ltS a b)
    | _, _ => False
  | .le => match x, y with
    | .int i, .int j => k (decide (i ≤ j))
    | .str a, .str b => k (!ltS b a)
    | _, _ => False
  | .gt => match x, y with
    | .int i, .int j => k (decide (j < i))
    | .str a, .str b => k (ltS b a)
    | _, _ => False
  | .ge => match x, y with
    | .int i, .int j => k (decide (j ≤ i))
    | .str a, .str b => k (!ltS a b)
    | _, _ => False
  | .is => match y with
    | .non => k (match x with | .non => true | _ => false)
    | .bl b => match x with | .bl a => k (a == b) | _ => False
    | _ => False
  | .isn => match y with
    | .non => k (match x with | .non => false | _ => true)
    | .bl b => match x with | .bl a => k (!(a == b)) | _ => False
    | _ => False
  | .isin => inR E x y k
  | .nin => inR E x y fun b => k (!b)
def rep (n : Nat) (x : List Nat) : List Nat := (List.replicate n x).flatten
def bopR (op : Bop) (m : Bool) (E : En) (x y : D) (q : QE) : Prop := match op with
  | .add => match x, y with
    | .int i, .int j => q (.int (i + j)) E
    | .str a, .str b => a.length + b.length ≤ 16777216 ∧ q (.str (a ++ b)) E
    | x, y => match lv E x, lv E y with
      | some a, some b => newL m (a ++ b) E q
      | _, _ => False
  | .sub => match x, y with
    | .int i, .int j => q (.int (i - j)) E
    | _, _ => False
  | .mul => match x, y with
    | .int i, .int j => CMulW i j ∧ q (.int (i * j)) E
    | .str a, .int n => a.length ≠ 0 ∧ n.toNat * a.length ≤ 16777216 ∧ n < 16777216 ∧ -16777216 < n ∧ q (.str (rep n.toNat a)) E
    | x, .bl b => match lv E x with
      | some a => newL m (if b = true then a else []) E q
      | _ => False
    | x, .int n => match lv E x with
      | some a => n < 16777216 ∧ -16777216 < n ∧ newL m (List.replicate n.toNat a).flatten E q
      | _ => False
    | _, _ => False
  | .mod => match x, y with
    | .int i, .int j => 0 < j ∧ q (.int (i % j)) E
    | _, _ => False
  | .fdiv => match x, y with
    | .int i, .int j => CDivW i j ∧ q (.int (i / j)) E
    | _, _ => False
  | .pow => match x, y with
    | .int i, .int j => 0 ≤ j ∧ (i.natAbs.log2 + 1 : Nat) * j ≤ 2 ^ 27 ∧ q (.int (i ^ j.toNat)) E
    | _, _ => False
/-- truth -/
def truR (E : En) (x : D) (k : Bool → Prop) : Prop := match x with
  | .non => k false
  | .bl b => k b
  | .int i => k (i != 0)
  | .str x => x.length ≤ 16777216 ∧ k (!x.isEmpty)
  | .tup ds => k (!ds.isEmpty)
  | .lst ds => k (!ds.isEmpty)
  | .ref a => match E a with
    | some (.lst ds) => k (!ds.isEmpty)
    | _ => False
def asBls : List D → Option (List Bool)
  | [] => some []
  | .bl b :: ds => (asBls ds).map (b :: ·)
  | _ :: _ => none
def asStrs : List D → Option (List (List Nat))
  | [] => some []
  | .str x :: ds => (asStrs ds).map (x :: ·)
  | _ :: _ => none
def asInts : List D → Option (List Int)
  | [] => some []
  | .int x :: ds => (asInts ds).map (x :: ·)
  | _ :: _ => none
/-- < of texts and asInts, of tuples of such as far as they are looked at -/
def ltD (E : En) : D → D → Option Bool
  | .int i, .int j => some (decide (i < j))
  | .str a, .str b => some (ltS a b)
  | .tup (.str a :: _), .tup (.str b :: _) => if a = b then none else some (ltS a b)
  | _, _ => none
def sortR (m : Bool) (E : En) (ds : List D) (q : QE) : Prop :=
  ds.length ≤ 16777216 ∧ (∃ key : D → List Nat, (∀ d ∈ ds, d = .str (key d)) ∨ ((∀ d ∈ ds, ∃ r, d = .tup (.str (key d) :: r)) ∧ (ds.map key).Nodup)) ∧
  ∀ ys : List D, ys.Perm ds → ys.Pairwise (fun a b => (ltD E b a).getD false = false) → newL m ys E q
def dec (i : Int) : List Nat := (toString i).toList.map Char.toNat
def tyR (E : En) (x : D) (t : Ty) (k : Bool → Prop) : Prop := match x with
  | .non => k false
  | .bl _ => k (decide (t = .bool ∨ t = .int))
  | .int _ => k (decide (t = .int))
  | .str _ => k (decide (t = .str))
  | .tup _ => k (decide (t = .tuple))
  | .lst _ => k (decide (t = .list))
  | .ref a => match E a with
    | some (.lst _) => k (decide (t = .list))
    | _ => False
def one (ds : List D) (k : D → Prop) : Prop := match ds with
  | [x] => k x
  | _ => False
def two (ds : List D) (k : D → D → Prop) : Prop := match ds with
  | [x, y] => k x y
  | _ => False
def asL (E : En) (x : D) (k : List D → Prop) : Prop := match lv E x with
  | some xs => k xs
  | none => False
/-- each once, in the order they come -/
def ddS {α : Type} [DecidableEq α] (l : List α) (x : α) : List α := if x ∈ l then l else l ++ [x]
def ddp {α : Type} [DecidableEq α] (l : List α) : List α := l.foldl ddS []
/-- a list or a tuple -/
def asQ (E : En) (x : D) (k : List D → Prop) : Prop := match x with
  | .tup xs => k xs
  | x => asL E x k
def asI (x : D) (k : Int → Prop) : Prop := match x with
  | .int i => k i
  | _ => False
def asB (x : D) (k : Bool → Prop) : Prop := match x with
  | .bl i => k i
  | _ => False
def asT (x : D) (k : List D → Prop) : Prop := match x with
  | .tup i => k i
  | _ => False
def asS (x : D) (k : List Nat → Prop) : Prop := match x with
  | .str i => k i
  | _ => False
def optI (l : List D) (k : Option Int → Prop) : Prop := match l with
  | [] => k none
  | [x] => asI x fun i => k (some i)
  | _ => False
def opt {α : Type} (o : Option α) (k : α → Prop) : Prop := match o with
  | some a => k a
  | none => False
def lenR (E : En) (x : D) (q : QE) : Prop := match x with
  | .str x => x.length ≤ 16777216 ∧ q (.int x.length) E
  | x => asQ E x fun xs => q (.int xs.length) E
def intR (E : En) (x : D) (q : QE) : Prop := match x with
  | .int i => q (.int i) E
  | .bl b => q (.int (if b then 1 else 0)) E
  | .str x => ∃ n, PySem.intText? (toS x) = some n ∧ x.length ≤ 640 ∧ q (.int n) E
  | _ => False
def isQ : D → Prop
  | .tup _ => True | .lst _ => True | .ref _ => True | _ => False
def biR (b : Bi) (m : Bool) (E : En) (ds : List D) (q : QE) : Prop := match b with
  | .len => one ds fun x => lenR E x q
  | .all => one ds fun x => asL E x fun xs => opt (asBls xs) fun bs => q (.bl (bs.all id)) E
  | .any => one ds fun x => asL E x fun xs => opt (asBls xs) fun bs => q (.bl (bs.any id)) E
  | .abs => one ds fun x => asI x fun i => q (.int (if i < 0 then -i else i)) E
  | .max2 => two ds fun x y => asI x fun i => asI y fun j => q (.int (if j > i then j else i)) E
  | .min2 => two ds fun x y => asI x fun i => asI y fun j => q (.int (if j < i then j else i)) E
  | .int => one ds fun x => intR E x q
  | .str => one ds fun x => asI x fun i => i.natAbs.log2 < 1920 ∧ q (.str (dec i)) E
  | .repr => one ds fun x => opt (dp E 4 x) fun p => isQ x ∧ (p.showable = true ∧ p.depth ≤ 64) ∧ p.shown.length ≤ 16777216 ∧ q (.str (TL.tl p.shown)) E
  | .sorted => one ds fun x => asL E x fun xs => sortR m E xs q
  | .list => one ds fun x => asQ E x fun xs => newL m xs E q
  | .tuple => False
def ixR (E : En) (x i : D) (q : QE) : Prop := asI i fun i => match x with
  | .str z => z.length ≤ 16777216 ∧ opt (atI z i) fun c => q (.str [c]) E
  | x => asQ E x fun ds => opt (atI ds i) fun d => q d E
def cut {α : Type} (xs : List α) (lo hi : Option Int) : List α := (xs.drop (HT.sIx xs.length 0 lo)).take (HT.sIx xs.length xs.length hi - HT.sIx xs.length 0 lo)
def slR (m : Bool) (E : En) (x : D) (lo hi : Option Int) (q : QE) : Prop := match x with
  | .str z => z.length ≤ 16777216 ∧ q (.str (cut z lo hi)) E
  | x => asL E x fun ds => newL m (cut ds lo hi) E q
/-- a cell's list -/
def asC (E : En) (x : D) (k : Addr → List D → Prop) : Prop := match x with
  | .ref a => match E a with
    | some (.lst xs) => k a xs
    | _ => False
  | _ => False
def bmR (b : Bm) (m : Bool) (E : En) (o : D) (ds : List D) (q : QE) : Prop := match b with
  | .append => one ds fun d => asC E o fun a xs => xs.length < 16777216 ∧ q .non (E.set a (.lst (xs ++ [d])))
  | .pop1 => one ds fun i => asI i fun i => asC E o fun a xs => -(2 ^ 62) ≤ i ∧ i < 2 ^ 62 ∧ opt (ixN xs.length i) fun k => opt xs[k]? fun y => q y (E.set a (.lst (xs.eraseIdx k)))
  | .clear => ds = [] ∧ asC E o fun a _ => q .non (E.set a (.lst []))
  | .join => one ds fun x => asS o fun sep => asL E x fun xs => opt (asStrs xs) fun ys => (ys.map List.length).sum + ys.length * sep.length ≤ 16777216 ∧ q (.str (TL.joinL sep ys)) E
  | .split => one ds fun c => asS o fun x => asS c fun c => c.length = 1 ∧ c.all (· < 256) = true ∧ x.length + 2 ≤ 16777216 ∧ newL m ((TL.spl c 0 [] x).map .str) E q
  | .endswith => one ds fun y => asS o fun x => asS y fun y => y ≠ [] ∧ q (.bl (decide (y <:+ x))) E
  | _ => False

/-- name op= e -/
def augR (op : Bop) (E : En) (d d2 : D) (q : QE) : Prop := match op with
  | .add => match d with
    | .int a => asI d2 fun b => q (.int (a + b)) E
    | .str a => asS d2 fun b => a.length + b.length ≤ 16777216 ∧ q (.str (a ++ b)) E
    | .ref a => asC E (.ref a) fun _ xs => asL E d2 fun ys => xs.length + ys.length ≤ 16777216 ∧ q (.ref a) (E.set a (.lst (xs ++ ys)))
    | _ => False
  | .sub => asI d fun a => asI d2 fun b => q (.int (a - b)) E
  | _ => False
/-- the receiver's type -/
def bmT (b : Bm) (E : En) (o : D) (p : Prop) : Prop := match b with
  | .join => asS o fun _ => p
  | .split => asS o fun _ => p
  | .endswith => asS o fun _ => p
  | .strip => asS o fun _ => p
  | _ => asL E o fun _ => p

/-! # slots -/
def getv : SD → Nat → (D → Prop) → Prop
  | [], _, _ => False
  | some d :: _, 0, k => k d
  | none :: _, 0, _ => False
  | _ :: s, n + 1, k => getv s n k
def wipeD (s : SD) : List Nat → SD
  | [] => s
  | v :: vs => (wipeD s vs).set v none
abbrev CSem := Nat → List D → En → QE → (Nat → En → Prop) → Prop
/-- for: the target, the body, what must stand -/
def wFor (tg : D → SD → En → (SD → En → Prop) → Prop) (body : TSD) (G : En → Prop) (D' : EndD) : List D → SD → En → Prop
  | [], s, E => G E ∧ D'.nx s E
  | d :: ds, s, E => G E ∧ tg d s E fun s1 E1 => body { D' with nx := fun s2 E2 => ∃ E3, En.le E3 E2 ∧ wFor tg body G D' ds s2 E3 } s1 E1
def wLc (tg : D → SD → En → (SD → En → Prop) → Prop) (cnd : SD → En → (Bool → En → Prop) → Prop) (elt : SD → En → QE → Prop) (G : En → Prop) (s : SD) : List D → En → (List D → En → Prop) → Prop
  | [], E, q => G E ∧ q [] E
  | d :: ds, E, q => G E ∧ tg d s E fun s1 E1 => cnd s1 E1 fun b E2 => if b = true then elt s1 E2 fun y E3 => wLc tg cnd elt G s ds E3 fun ys E4 => q (y :: ys) E4 else wLc tg cnd elt G s ds E2 q
def wWhl (c : SD → En → (Bool → En → Prop) → Prop) (body : TSD) (D' : EndD) : Nat → SD → En → Prop
  | 0, _, _ => False
  | n + 1, s, E => c s E fun b E1 => if b = true then body { D' with nx := fun s2 E2 => ∃ E3, En.le E3 E2 ∧ wWhl c body D' n s2 E3 } s E1 else D'.nx s E1
/-- what an iterable gives: the items; what must stand -/
def seqR (E : En) (x : D) (q : List D → (En → Prop) → En → Prop) : Prop := match x with
  | .str z => q (z.map fun c => .str [c]) (fun _ => True) E
  | .tup ds => q ds (fun _ => True) E
  | .lst ds => q ds (fun _ => True) E
  | .ref a => match E a with
    | some (.lst ds) => q ds (fun E' => E' a = some (.lst ds)) E
    | _ => False
  | _ => False
def rngD (lo : Int) (n : Nat) : List D := (List.range n).map fun (k : Nat) => D.int (lo + k)

/-- no exception -/
def noX : XP := fun _ _ _ => False

def tgsL : Tgs → Nat
  | .nil => 0
  | .cons _ ts => tgsL ts + 1

/-! # the meaning -/
mutual
def wE (G : Nat → Option D) (C : CSem) : Ex → TD
  | .var i, s, E, q, _ => getv s i fun d => q d E
  | .glb g, _, E, q, _ => opt (G g) fun d => q d E
  | .non, _, E, q, _ => q .non E
  | .bl b, _, E, q, _ => q (.bl b) E
  | .int i, _, E, q, _ => q (.int i) E
  | .str x, _, E, q, _ => q (.str x) E
  | .tup es, s, E, q, x => wA G C es s E (fun ds E1 => ds.length ≤ 16777216 ∧ q (.tup ds) E1) x
  | .lst m es, s, E, q, x => wA G C es s E (fun ds E1 => newL m ds E1 q) x
  | .bin op m a b, s, E, q, x => wE G C a s E (fun d E1 => wE G C b s E1 (fun d2 E2 => bopR op m E2 d d2 q) x) x
  | .neg a, s, E, q, x => wE G C a s E (fun d E1 => asI d fun i => q (.int (-i)) E1) x
  | .cmp op a b, s, E, q, x => wE G C a s E (fun d E1 => wE G C b s E1 (fun d2 E2 => cmpR op E2 d d2 fun k => q (.bl k) E2) x) x
  | .chn op op2 a b c, s, E, q, x => wE G C a s E (fun d E1 => wE G C b s E1 (fun d2 E2 => cmpR op E2 d d2 fun k => if k = true then wE G C c s E2 (fun d3 E3 => cmpR op2 E3 d2 d3 fun k => q (.bl k) E3) x else q (.bl false) E2) x) x
  | .and a b, s, E, q, x => wE G C a s E (fun d E1 => asB d fun k => if k = true then wE G C b s E1 q x else q (.bl false) E1) x
  | .or a b, s, E, q, x => wE G C a s E (fun d E1 => asB d fun k => if k = true then q (.bl true) E1 else wE G C b s E1 q x) x
  | .not a, s, E, q, x => wE G C a s E (fun d E1 => asB d fun k => q (.bl (!k)) E1) x
  | .ite c a b, s, E, q, x => wT G C c s E (fun k E1 => if k = true then wE G C a s E1 q x else wE G C b s E1 q x) x
  | .call f es, s, E, q, x => wA G C es s E (fun ds E1 => C f ds E1 q fun c E2 => x c s E2) x
  | .bi b m es, s, E, q, x => wA G C es s E (fun ds E1 => biR b m E1 ds q) x
  | .isi a t, s, E, q, x => wE G C a s E (fun d E1 => tyR E1 d t fun k => q (.bl k) E1) x
  | .bm b m o es, s, E, q, x => wE G C o s E (fun d E1 => bmT b E1 d (wA G C es s E1 (fun ds E2 => bmR b m E2 d ds q) x)) x
  | .ix a i, s, E, q, x => wE G C a s E (fun d E1 => wE G C i s E1 (fun d2 E2 => ixR E2 d d2 q) x) x
  | .sl m a lo hi, s, E, q, x => wE G C a s E (fun d E1 => wA G C lo s E1 (fun l E2 => optI l fun l' => wA G C hi s E2 (fun h E3 => optI h fun h' => slR m E3 d l' h' q) x) x) x
  | .rev m a, s, E, q, x => wE G C a s E (fun d E1 => asL E1 d fun ds => newL m ds.reverse E1 q) x
  | .lc m own e t it c, s, E, q, x => wI G C it s E (fun ds St E1 => ds.length ≤ 16777216 ∧ wLc (fun d s' E' k => wG G C t d s' E' k noX) (fun s' E' k => wB G C c s' E' k noX) (fun s' E' k => wE G C e s' E' k noX) St (wipeD s own) ds E1 fun ys E2 => newL m ys E2 q) x
  | .lenset a, s, E, q, x => wE G C a s E (fun d E1 => asL E1 d fun xs => opt (asStrs xs) fun ys => ys.length < 4000 ∧ q (.int (ddp ys).length) E1) x
  | .fz a, s, E, q, x => wE G C a s E (fun d E1 => asC E1 d fun p ds => q (.lst ds) (E1.del p)) x
def wT (G : Nat → Option D) (C : CSem) : Tx → TTD
  | .and a b, s, E, q, x => wT G C a s E (fun k E1 => if k = true then wT G C b s E1 q x else q false E1) x
  | .or a b, s, E, q, x => wT G C a s E (fun k E1 => if k = true then q true E1 else wT G C b s E1 q x) x
  | .not a, s, E, q, x => wT G C a s E (fun k E1 => q (!k) E1) x
  | .val e, s, E, q, x => wE G C e s E (fun d E1 => truR E1 d fun k => q k E1) x
def wA (G : Nat → Option D) (C : CSem) : Exs → TAD
  | .nil, _, E, q, _ => q [] E
  | .cons e es, s, E, q, x => wE G C e s E (fun d E1 => wA G C es s E1 (fun ds E2 => q (d :: ds) E2) x) x
def wB (G : Nat → Option D) (C : CSem) : Txs → TTD
  | .one e, s, E, q, x => wT G C e s E q x
  | .nil, _, E, q, _ => q true E
def wI (G : Nat → Option D) (C : CSem) : Iz → SD → En → (List D → (En → Prop) → En → Prop) → XP → Prop
  | .seq e, s, E, q, x => wE G C e s E (fun d E1 => seqR E1 d q) x
  | .rng1 e, s, E, q, x => wE G C e s E (fun d E1 => asI d fun n => -(2 ^ 60) < n ∧ n < 2 ^ 60 ∧ q (rngD 0 n.toNat) (fun _ => True) E1) x
  | .rng2 a b, s, E, q, x => wE G C a s E (fun d E1 => wE G C b s E1 (fun d2 E2 => asI d fun l => asI d2 fun h => -(2 ^ 60) < l ∧ l < 2 ^ 60 ∧ -(2 ^ 60) < h ∧ h < 2 ^ 60 ∧ q (rngD l (h - l).toNat) (fun _ => True) E2) x) x
def wG (G : Nat → Option D) (C : CSem) : Tg → D → SD → En → (SD → En → Prop) → XP → Prop
  | .nm i, d, s, E, q, _ => i < s.length ∧ q (s.set i (some d)) E
  | .tup ts, d, s, E, q, x => asT d fun ds => ds.length = tgsL ts ∧ wGs G C ts ds s E q x
  | .sub o i, d, s, E, q, x => wE G C o s E (fun o E1 => wE G C i s E1 (fun i E2 => asI i fun k => asC E2 o fun a xs => opt (ixN xs.length k) fun j => q s (E2.set a (.lst (xs.set j d)))) x) x
def wGs (G : Nat → Option D) (C : CSem) : Tgs → List D → SD → En → (SD → En → Prop) → XP → Prop
  | .nil, [], s, E, q, _ => q s E
  | .cons t ts, d :: ds, s, E, q, x => wG G C t d s E (fun s1 E1 => wGs G C ts ds s1 E1 q x) x
  | _, _, _, _, _, _ => False
end
mutual
def wS (G : Nat → Option D) (C : CSem) : Sm → TSD
  | .exp e, D', s, E => wE G C e s E (fun _ E1 => D'.nx s E1) D'.x
  | .asg t e, D', s, E => wE G C e s E (fun d E1 => wG G C t d s E1 D'.nx D'.x) D'.x
  | .aug i op e, D', s, E => i < s.length ∧ getv s i fun d => wE G C e s E (fun d2 E1 => augR op E1 d d2 fun d3 E2 => D'.nx (s.set i (some d3)) E2) D'.x
  | .ret e, D', s, E => wE G C e s E D'.rt D'.x
  | .retn, D', _, E => D'.rt .non E
  | .pass, D', s, E => D'.nx s E
  | .ite c a b, D', s, E => wT G C c s E (fun k E1 => if k = true then wSs G C a D' s E1 else wSs G C b D' s E1) D'.x
  | .for t it b, D', s, E => wI G C it s E (fun ds St E1 => wFor (fun d s' E' k => wG G C t d s' E' k D'.x) (wSs G C b) St D' ds s E1) D'.x
  | .whl c b, D', s, E => ∃ n, wWhl (fun s' E' k => wT G C c s' E' k D'.x) (wSs G C b) D' n s E
  | .rse c, D', s, E => D'.x c s E
def wSs (G : Nat → Option D) (C : CSem) : Sms → TSD
  | .nil, D', s, E => D'.nx s E
  | .cons t ts, D', s, E => wS G C t { D' with nx := fun s1 E1 => wSs G C ts D' s1 E1 } s E
end
/-- a program: bodies, number of slots -/
structure Fn where
  ps : Nat
  sl : Nat
  body : Sms
def startD (n : Nat) (ds : List D) : SD := ds.map some ++ List.replicate (n - ds.length) none
def wC (G : Nat → Option D) (F : Nat → Option Fn) : Nat → CSem
  | 0, _, _, _, _, _ => False
  | k + 1, f, ds, E, q, x => match F f with
    | some fn => ds.length = fn.ps ∧ wSs G (wC G F k) fn.body ⟨fun _ E1 => ∃ E2, En.le E2 E1 ∧ q .non E2, fun d E1 => ∃ E2, En.le E2 E1 ∧ q d E2, fun c _ E1 => ∃ E2, En.le E2 E1 ∧ x c E2⟩ (startD fn.sl ds) E
    | none => False
end DL

set_option Elab.async false
set_option linter.all false
set_option maxRecDepth 100000
namespace DL
open PySem L2

/-! # readings by values, lifted -/
section
variable (T : Tb)
def L1 (R : List D → En → QE → Prop) : List V → Hp → VK → Prop := fun vs H Q => ∃ ds E q, RE T H E ∧ RDs T.K H ds vs ∧ R ds E q ∧ ∀ d E' v H', Stp E H E' H' → RE T H' E' → RD T.K H' d v → q d E' → Q v H'
def Lo (R : D → D → En → QE → Prop) : R2 := fun x y H Q => ∃ d d2 E q, RE T H E ∧ RD T.K H d x ∧ RD T.K H d2 y ∧ R d d2 E q ∧ ∀ d E' v H', Stp E H E' H' → RE T H' E' → RD T.K H' d v → q d E' → Q v H'
end
theorem CallR.imp {X : Cx} {f : Value} {r r' : List V → Hp → VK → Prop} (h : CallR X f r) (i : ∀ vs H Q, r' vs H Q → r vs H Q) : CallR X f r' := fun pins s σ H xs us Q I rv q => h pins s σ H xs us Q I rv (i _ _ _ q)
theorem CallR.fz {X : Cx} {f : Value} {r : List V → Hp → VK → Prop} (h : CallR X f r) : CallR X f (fun vs H Q => r vs H (QF Q)) := fun pins s σ H xs us Q I rv q => thn (h pins s σ H xs us _ I rv q) fun _ _ z => EP.fz z
theorem OpR.imp {X : Cx} {f : Value → Value → Sem Value} {r r' : R2} (h : OpR X f r) (i : ∀ x y H Q, r' x y H Q → r x y H Q) : OpR X f r' := fun pins s σ H x y v u Q I rx ry q => h pins s σ H x y v u Q I rx ry (i _ _ _ _ q)
theorem OpR.fz {X : Cx} {f : Value → Value → Sem Value} {r : R2} (h : OpR X f r) : OpR X f (fun x y H Q => r x y H (QF Q)) := fun pins s σ H x y v u Q I rx ry q => thn (h pins s σ H x y v u _ I rx ry q) fun _ _ z => EP.fz z
/-- a way is chosen by the values -/
theorem OpR.by {X : Cx} {f : Value → Value → Sem Value} {r : R2} (h : ∀ x y H Q, r x y H Q → ∃ r', OpR X f r' ∧ r' x y H Q) : OpR X f r := fun pins s σ H x y v u Q I rx ry q => by
  obtain ⟨r', h1, h2⟩ := h x y H Q q
  exact h1 pins s σ H x y v u Q I rx ry h2
theorem CallR.by {X : Cx} {f : Value} {r : List V → Hp → VK → Prop} (h : ∀ vs H Q, r vs H Q → ∃ r', CallR X f r' ∧ r' vs H Q) : CallR X f r := fun pins s σ H xs us Q I rv q => by
  obtain ⟨r', h1, h2⟩ := h xs H Q q
  exact h1 pins s σ H xs us Q I rv h2

theorem toS_list (x : List Nat) : (toS x).cps.toList = x := rfl
theorem toS_len (x : List Nat) : (toS x).length = x.length := by unfold toS Str.length; simp
theorem toS_inj {x y : List Nat} : toS x = toS y ↔ x = y := ⟨fun h => by have := congrArg (fun s : Str => s.cps.toList) h; exact this, fun h => by rw [h]⟩
theorem toS_app (x y : List Nat) : toS x ++ toS y = toS (x ++ y) := TL.ext_tl (by rw [TL.tl_append]; rfl)
theorem toS_tl (x : Str) : toS (TL.tl x) = x := TL.ext_tl rfl

section
variable {T : Tb} {E : En} {H : Hp}
theorem lv_ok {d : D} {v : V} {ds : List D} (he : RE T H E) (hd : RD T.K H d v) (h : lv E d = some ds) : ∃ a vs, v = .ref a ∧ RdK T.K H a vs ∧ RDs T.K H ds vs := by
  cases d with
  | lst es =>
    cases h
    unfold RD at hd
    obtain ⟨a, vs, e, z, r⟩ := hd
    exact ⟨a, vs, e, z.rd, r⟩
  | ref a =>
    unfold RD at hd
    unfold lv at h
    cases q : E a with
    | none => simp only [q] at h; cases h
    | some c =>
      cases c with
      | lst es =>
        simp only [q] at h
        cases h
        obtain ⟨vs, z, r⟩ := he a _ q
        exact ⟨a, vs, hd, .inl (.of z), r⟩
      | ins c fs => simp only [q] at h; cases h
  | _ => cases h
theorem newL_go {m : Bool} {ds : List D} {vs : List V} {q : QE} {Q : VK} (he : RE T H E) (hv : RDs T.K H ds vs) (h : newL m ds E q)
    (post : ∀ d E' v H', Stp E H E' H' → RE T H' E' → RD T.K H' d v → q d E' → Q v H') : ∀ p, H p = none → QF Q (.ref p) (upd H p (.lst vs)) := fun p hp => by
  obtain ⟨_, h⟩ := h
  cases m with
  | true =>
    rw [if_pos rfl] at h
    exact .inl (post (.ref p) _ _ _ (.newC hp) (he.newL hp hv) (by unfold RD; rfl) (h p (he.free hp)))
  | false =>
    rw [if_neg Bool.false_ne_true] at h
    refine .inr ⟨p, vs, rfl, upd_same, fun o => ?_⟩
    rw [upd_upd]
    exact post (.lst ds) _ _ _ (.new hp) (he.new hp) (by unfold RD; exact ⟨p, vs, rfl, .inl ⟨o, upd_same⟩, hv.grow (.new hp)⟩) h
theorem newL_len {m : Bool} {ds : List D} {q : QE} (h : newL m ds E q) : ds.length ≤ sizeLine := by rw [sizeLine_eq]; exact h.1
theorem rd_int {i : Int} {v : V} : RD T.K H (.int i) v ↔ v = .int i := by unfold RD; rfl
theorem rd_str {i : List Nat} {v : V} : RD T.K H (.str i) v ↔ v = .str (toS i) := by unfold RD; rfl
theorem rd_bl {i : Bool} {v : V} : RD T.K H (.bl i) v ↔ v = .bl i := by unfold RD; rfl
theorem rd_non {v : V} : RD T.K H .non v ↔ v = .non := by unfold RD; rfl
theorem rd_ref {a : Addr} {v : V} : RD T.K H (.ref a) v ↔ v = .ref a := by unfold RD; rfl
theorem rds_one {d : D} {vs : List V} (h : RDs T.K H [d] vs) : ∃ v, vs = [v] ∧ RD T.K H d v := by
  unfold RDs at h
  obtain ⟨v, r, e, h1, h2⟩ := h
  unfold RDs at h2
  subst h2
  exact ⟨v, e, h1⟩
theorem rds_two {d d2 : D} {vs : List V} (h : RDs T.K H [d, d2] vs) : ∃ v w, vs = [v, w] ∧ RD T.K H d v ∧ RD T.K H d2 w := by
  unfold RDs at h
  obtain ⟨v, r, e, h1, h2⟩ := h
  obtain ⟨w, e2, h3⟩ := rds_one h2
  subst e2
  exact ⟨v, w, e, h1, h3⟩
theorem bls_ok : ∀ {ds : List D} {vs : List V} {bs : List Bool}, RDs T.K H ds vs → asBls ds = some bs → vs = bs.map V.bl
  | [], _, _, h, e => by unfold RDs at h; unfold asBls at e; cases e; exact h
  | d :: ds, _, bs, h, e => by
    unfold RDs at h
    obtain ⟨v, r, e1, h1, h2⟩ := h
    cases d with
    | bl b =>
      unfold asBls at e
      cases q : asBls ds with
      | none => rw [q] at e; cases e
      | some bs' => rw [q] at e; cases e; rw [rd_bl] at h1; rw [e1, h1, bls_ok h2 q]; rfl
    | _ => cases e
theorem strs_ok : ∀ {ds : List D} {vs : List V} {bs : List (List Nat)}, RDs T.K H ds vs → asStrs ds = some bs → vs = (bs.map toS).map V.str
  | [], _, _, h, e => by unfold RDs at h; unfold asStrs at e; cases e; exact h
  | d :: ds, _, bs, h, e => by
    unfold RDs at h
    obtain ⟨v, r, e1, h1, h2⟩ := h
    cases d with
    | str b =>
      unfold asStrs at e
      cases q : asStrs ds with
      | none => rw [q] at e; cases e
      | some bs' => rw [q] at e; cases e; rw [rd_str] at h1; rw [e1, h1, strs_ok h2 q]; rfl
    | _ => cases e
theorem ints_ok : ∀ {ds : List D} {vs : List V} {bs : List Int}, RDs T.K H ds vs → asInts ds = some bs → vs = bs.map V.int
  | [], _, _, h, e => by unfold RDs at h; unfold asInts at e; cases e; exact h
  | d :: ds, _, bs, h, e => by
    unfold RDs at h
    obtain ⟨v, r, e1, h1, h2⟩ := h
    cases d with
    | int b =>
      unfold asInts at e
      cases q : asInts ds with
      | none => rw [q] at e; cases e
      | some bs' => rw [q] at e; cases e; rw [rd_int] at h1; rw [e1, h1, ints_ok h2 q]; rfl
    | _ => cases e
/-! deep data -/
mutual
theorem dpF_ok {r : D → Option PyData} (he : RE T H E) (hr : ∀ d p v, r d = some p → RD T.K H d v → Dp T.K H v p) : ∀ (d : D) (p : PyData) (v : V), dpF E r d = some p → RD T.K H d v → Dp T.K H v p
  | .non, p, v, h, hd => by unfold dpF at h; cases h; rw [rd_non] at hd; subst hd; exact .non
  | .bl b, p, v, h, hd => by unfold dpF at h; cases h; rw [rd_bl] at hd; subst hd; exact .bl b
  | .int b, p, v, h, hd => by unfold dpF at h; cases h; rw [rd_int] at hd; subst hd; exact .int b
  | .str b, p, v, h, hd => by unfold dpF at h; cases h; rw [rd_str] at hd; subst hd; exact .str _
  | .tup ds, p, v, h, hd => by
    unfold dpF at h
    cases q : dpFs E r ds with
    | none => rw [q] at h; cases h
    | some ps =>
      rw [q] at h; cases h
      unfold RD at hd
      obtain ⟨a, vs, rfl, z, rr⟩ := hd
      exact .tup z (dpFs_ok he hr ds ps vs q rr)
  | .lst ds, p, v, h, hd => by
    unfold dpF at h
    cases q : dpFs E r ds with
    | none => rw [q] at h; cases h
    | some ps =>
      rw [q] at h; cases h
      unfold RD at hd
      obtain ⟨a, vs, rfl, z, rr⟩ := hd
      exact .lst z.sq (dpFs_ok he hr ds ps vs q rr)
  | .ref a, p, v, h, hd => by
    unfold dpF at h
    rw [rd_ref] at hd
    subst hd
    cases q : E a with
    | none => simp only [q] at h; cases h
    | some c =>
      cases c with
      | ins c fs => simp only [q] at h; cases h
      | lst ds =>
        simp only [q] at h
        obtain ⟨vs, z, rr⟩ := he a _ q
        cases q2 : ds.mapM r with
        | none => rw [q2] at h; cases h
        | some ps =>
          rw [q2] at h; cases h
          refine .lst (.of z) ?_
          clear z q
          induction ds generalizing vs ps with
          | nil => unfold RDs at rr; subst rr; cases q2; exact .nil
          | cons d ds ih =>
            unfold RDs at rr
            obtain ⟨v, r', e, h1, h2⟩ := rr
            subst e
            rw [List.mapM_cons] at q2
            cases q3 : r d with
            | none => rw [q3] at q2; cases q2
            | some p =>
              rw [q3] at q2
              cases q4 : ds.mapM r with
              | none => rw [q4] at q2; cases q2
              | some ps' =>
                rw [q4] at q2; cases q2
                exact .cons (hr _ _ _ q3 h1) (ih _ h2 _ q4)
theorem dpFs_ok {r : D → Option PyData} (he : RE T H E) (hr : ∀ d p v, r d = some p → RD T.K H d v → Dp T.K H v p) : ∀ (ds : List D) (ps : List PyData) (vs : List V), dpFs E r ds = some ps → RDs T.K H ds vs → DpAll T.K H vs ps
  | [], ps, vs, h, hd => by unfold dpFs at h; cases h; unfold RDs at hd; subst hd; exact .nil
  | d :: ds, ps, vs, h, hd => by
    unfold RDs at hd
    obtain ⟨v, r', e, h1, h2⟩ := hd
    subst e
    unfold dpFs at h
    cases q : dpF E r d with
    | none => simp only [q] at h; cases h
    | some p =>
      cases q2 : dpFs E r ds with
      | none => simp only [q, q2] at h; cases h
      | some ps' =>
        simp only [q, q2] at h
        cases h
        exact .cons (dpF_ok he hr d p v q h1) (dpFs_ok he hr ds ps' r' q2 h2)
end
theorem dp_ok (he : RE T H E) : ∀ (n : Nat) (d : D) (p : PyData) (v : V), dp E n d = some p → RD T.K H d v → Dp T.K H v p
  | 0 => dpF_ok he fun _ _ _ h => by cases h
  | n + 1 => dpF_ok he (dp_ok he n)
end
end DL

set_option Elab.async false
set_option linter.all false
set_option maxRecDepth 100000
namespace DL
open PySem L2

section
variable {T : Tb} {E : En} {H : Hp} {X : Cx}
/-- the post of an answer that changes nothing -/
theorem fin_same {d : D} {v : V} {q : QE} {Q : VK} (he : RE T H E) (hd : RD T.K H d v) (h : q d E) (post : ∀ d E' v H', Stp E H E' H' → RE T H' E' → RD T.K H' d v → q d E' → Q v H') : Q v H := post d E v H (.refl _ _) he hd h
theorem scq_ok {x y : D} {v w : V} {b : Bool} (hx : RD T.K H x v) (hy : RD T.K H y w) (h : scq x y = some b) : scal v w = true ∧ decide (v = w) = b := by
  cases x <;> cases y <;> first
    | (simp [scq] at h; done)
    | (simp only [rd_non, rd_int, rd_bl, rd_str] at hx hy; subst hx hy; simp only [scq, Option.some.injEq] at h; subst h; refine ⟨rfl, ?_⟩; first | (simp [toS_inj]; done) | (rw [Bool.eq_iff_iff]; simp [toS_inj]))
theorem eq_ok (hu : X.A.units + 64 < cLine) (hK : X.K = T.K) : OpR X (compareOp .Eq) (Lo T fun x y E q => eqR E x y fun k => q (.bl k) E) := by
  refine OpR.by fun v w H Q ⟨x, y, E, q, he, hx, hy, h, post⟩ => ?_
  dsimp only at h
  unfold eqR at h
  cases e : scq x y with
  | some b =>
    rw [e] at h
    obtain ⟨h1, h2⟩ := scq_ok hx hy e
    exact ⟨_, op_eq, h1, by rw [h2]; exact fin_same he (rd_bl.mpr rfl) h post⟩
  | none =>
    rw [e] at h
    cases e1 : dp E 4 x with
    | none => simp only [e1] at h
    | some p =>
      cases e2 : dp E 4 y with
      | none => simp only [e1, e2] at h
      | some p' =>
        simp only [e1, e2] at h
        obtain ⟨s1, s2, h⟩ := h
        refine ⟨_, op_eqD hu, p, p', ?_, ?_, s1, s2, fin_same he (rd_bl.mpr rfl) h post⟩
        · rw [hK]; exact dp_ok he 4 x p v e1 hx
        · rw [hK]; exact dp_ok he 4 y p' w e2 hy
theorem ne_ok (hu : X.A.units + 64 < cLine) (hK : X.K = T.K) : OpR X (compareOp .NotEq) (Lo T fun x y E q => eqR E x y fun k => q (.bl (!k)) E) := by
  refine OpR.by fun v w H Q ⟨x, y, E, q, he, hx, hy, h, post⟩ => ?_
  dsimp only at h
  unfold eqR at h
  cases e : scq x y with
  | some b =>
    rw [e] at h
    obtain ⟨h1, h2⟩ := scq_ok hx hy e
    exact ⟨_, op_ne, h1, by rw [h2]; exact fin_same he (rd_bl.mpr rfl) h post⟩
  | none =>
    rw [e] at h
    cases e1 : dp E 4 x with
    | none => simp only [e1] at h
    | some p =>
      cases e2 : dp E 4 y with
      | none => simp only [e1, e2] at h
      | some p' =>
        simp only [e1, e2] at h
        obtain ⟨s1, s2, h⟩ := h
        refine ⟨_, op_neD hu, p, p', ?_, ?_, s1, s2, fin_same he (rd_bl.mpr rfl) h post⟩
        · rw [hK]; exact dp_ok he 4 x p v e1 hx
        · rw [hK]; exact dp_ok he 4 y p' w e2 hy
/-- a comparison of two ints, of two texts -/
theorem lt_ok : OpR X (compareOp .Lt) (Lo T fun x y E q => cmpR .lt E x y fun k => q (.bl k) E) := by
  refine OpR.by fun v w H Q ⟨x, y, E, q, he, hx, hy, h, post⟩ => ?_
  cases x <;> cases y <;> first | exact absurd h (fun z => z) | skip
  · rw [rd_int] at hx hy; subst hx hy; exact ⟨_, op_lt, _, _, rfl, rfl, fin_same he (rd_bl.mpr rfl) h post⟩
  · rw [rd_str] at hx hy; subst hx hy; exact ⟨_, op_lt_str, _, _, rfl, rfl, fin_same he (rd_bl.mpr rfl) h post⟩
theorem le_ok : OpR X (compareOp .LtE) (Lo T fun x y E q => cmpR .le E x y fun k => q (.bl k) E) := by
  refine OpR.by fun v w H Q ⟨x, y, E, q, he, hx, hy, h, post⟩ => ?_
  cases x <;> cases y <;> first | exact absurd h (fun z => z) | skip
  · rw [rd_int] at hx hy; subst hx hy; exact ⟨_, op_le, _, _, rfl, rfl, fin_same he (rd_bl.mpr rfl) h post⟩
  · rw [rd_str] at hx hy; subst hx hy; exact ⟨_, op_le_str, _, _, rfl, rfl, fin_same he (rd_bl.mpr rfl) h post⟩
theorem gt_ok : OpR X (compareOp .Gt) (Lo T fun x y E q => cmpR .gt E x y fun k => q (.bl k) E) := by
  refine OpR.by fun v w H Q ⟨x, y, E, q, he, hx, hy, h, post⟩ => ?_
  cases x <;> cases y <;> first | exact absurd h (fun z => z) | skip
  · rw [rd_int] at hx hy; subst hx hy; exact ⟨_, op_gt, _, _, rfl, rfl, fin_same he (rd_bl.mpr rfl) h post⟩
  · rw [rd_str] at hx hy; subst hx hy; exact ⟨_, op_gt_str, _, _, rfl, rfl, fin_same he (rd_bl.mpr rfl) h post⟩
theorem ge_ok : OpR X (compareOp .GtE) (Lo T fun x y E q => cmpR .ge E x y fun k => q (.bl k) E) := by
  refine OpR.by fun v w H Q ⟨x, y, E, q, he, hx, hy, h, post⟩ => ?_
  cases x <;> cases y <;> first | exact absurd h (fun z => z) | skip
  · rw [rd_int] at hx hy; subst hx hy; exact ⟨_, op_ge, _, _, rfl, rfl, fin_same he (rd_bl.mpr rfl) h post⟩
  · rw [rd_str] at hx hy; subst hx hy; exact ⟨_, op_ge_str, _, _, rfl, rfl, fin_same he (rd_bl.mpr rfl) h post⟩
theorem is_ok : OpR X (compareOp .Is) (Lo T fun x y E q => cmpR .is E x y fun k => q (.bl k) E) := by
  refine OpR.by fun v w H Q ⟨x, y, E, q, he, hx, hy, h, post⟩ => ?_
  cases y with
  | non =>
    rw [rd_non] at hy; subst hy
    refine ⟨_, op_isN, rfl, ?_⟩
    cases x <;> first
      | (simp only [rd_non, rd_int, rd_bl, rd_str, rd_ref] at hx; subst hx; exact fin_same he (rd_bl.mpr (by simp)) h post)
      | (unfold RD at hx; obtain ⟨a, vs, rfl, _⟩ := hx; exact fin_same he (rd_bl.mpr (by simp)) h post)
  | bl b =>
    rw [rd_bl] at hy; subst hy
    cases x with
    | bl a =>
      rw [rd_bl] at hx; subst hx
      refine ⟨_, op_is_bl, a, b, rfl, rfl, ?_⟩
      exact fin_same he (rd_bl.mpr (congrArg V.bl (by rw [Bool.eq_iff_iff]; simp))) h post
    | _ => exact absurd h (fun z => z)
  | _ => exact absurd h (fun z => z)
theorem isn_ok : OpR X (compareOp .IsNot) (Lo T fun x y E q => cmpR .isn E x y fun k => q (.bl k) E) := by
  refine OpR.by fun v w H Q ⟨x, y, E, q, he, hx, hy, h, post⟩ => ?_
  cases y with
  | non =>
    rw [rd_non] at hy; subst hy
    refine ⟨_, op_notN, rfl, ?_⟩
    cases x <;> first
      | (simp only [rd_non, rd_int, rd_bl, rd_str, rd_ref] at hx; subst hx; exact fin_same he (rd_bl.mpr (by simp)) h post)
      | (unfold RD at hx; obtain ⟨a, vs, rfl, _⟩ := hx; exact fin_same he (rd_bl.mpr (by simp)) h post)
  | bl b =>
    rw [rd_bl] at hy; subst hy
    cases x with
    | bl a =>
      rw [rd_bl] at hx; subst hx
      refine ⟨_, op_isnot_bl, a, b, rfl, rfl, ?_⟩
      exact fin_same he (rd_bl.mpr (congrArg (fun k => V.bl (!k)) (by rw [Bool.eq_iff_iff]; simp))) h post
    | _ => exact absurd h (fun z => z)
  | _ => exact absurd h (fun z => z)
theorem flat_ok {x : D} {v : V} (hx : RD T.K H x v) (f : flat x = true) : flatV v = true := by
  cases x <;> first
    | (simp only [rd_non, rd_int, rd_bl, rd_str, rd_ref] at hx; subst hx; first | rfl | exact f)
    | exact absurd f Bool.false_ne_true
theorem eqF_ok {x y : D} {v w : V} (hx : RD T.K H x v) (hy : RD T.K H y w) (fx : flat x = true) (fy : flat y = true) : eqV v w = eqF x y := by
  cases x <;> cases y <;> first
    | exact absurd fx Bool.false_ne_true
    | exact absurd fy Bool.false_ne_true
    | (simp only [rd_non, rd_int, rd_bl, rd_str] at hx hy; subst hx hy; first | rfl | (simp only [eqV, eqF]; exact Bool.eq_iff_iff.mpr (by simp [toS_inj])))
theorem flats_ok : ∀ {ds : List D} {vs : List V}, RDs T.K H ds vs → ds.all flat = true → vs.all flatV = true
  | [], _, h, _ => by unfold RDs at h; subst h; rfl
  | d :: ds, _, h, f => by
    unfold RDs at h
    obtain ⟨v, r, e, h1, h2⟩ := h
    subst e
    rw [List.all_cons, Bool.and_eq_true] at f ⊢
    exact ⟨flat_ok h1 f.1, flats_ok h2 f.2⟩
theorem inF_ok {x : D} {v : V} (hx : RD T.K H x v) (fx : flat x = true) : ∀ {ds : List D} {vs : List V}, RDs T.K H ds vs → ds.all flat = true → inV v vs = ds.any fun z => eqF z x
  | [], _, h, _ => by unfold RDs at h; subst h; rfl
  | d :: ds, _, h, f => by
    unfold RDs at h
    obtain ⟨w, r, e, h1, h2⟩ := h
    subst e
    rw [List.all_cons, Bool.and_eq_true] at f
    have ih := inF_ok hx fx h2 f.2
    unfold inV at ih ⊢
    rw [List.any_cons, List.any_cons, ih, eqF_ok h1 hx f.1 fx]
theorem in_ok (hu : X.A.units + 65 < cLine) (hK : X.K = T.K) : OpR X (compareOp .In) (Lo T fun x y E q => inR E x y fun k => q (.bl k) E) := by
  refine OpR.by fun v w H Q ⟨x, y, E, q, he, hx, hy, h, post⟩ => ?_
  dsimp only at h
  have seq : ∀ {ds : List D}, y ≠ .tup ds → (∀ z, y ≠ .str z) → lv E y = some ds → ∃ r', OpR X (compareOp .In) r' ∧ r' v w H Q := fun {ds} n1 n2 el => by
    have h' : if (flat x && ds.all flat) = true then q (.bl (ds.any fun z => eqF z x)) E else (match dp E 4 x, dp E 4 y with
      | some p, some (.list ps) => SeqAt.shaped p = true ∧ SeqAt.shaped (.list ps) = true ∧ q (.bl (ps.any fun z => PyData.eqv z p)) E
      | _, _ => False) := by
      cases y with
      | tup es => cases el
      | str z => exact absurd rfl (n2 z)
      | lst es => unfold inR at h; simp only [el] at h; exact h
      | ref a => unfold inR at h; simp only [el] at h; exact h
      | _ => cases el
    obtain ⟨a, vs, rfl, hs, hr⟩ := lv_ok he hy el
    by_cases f : (flat x && ds.all flat) = true
    · rw [if_pos f] at h'
      rw [Bool.and_eq_true] at f
      refine ⟨_, op_in_seq, a, vs, rfl, .inl (hs.sq hK), flat_ok hx f.1, flats_ok hr f.2, ?_⟩
      rw [if_neg Bool.false_ne_true, inF_ok hx f.1 hr f.2]
      exact fin_same he (rd_bl.mpr rfl) h' post
    · rw [if_neg f] at h'
      cases e1 : dp E 4 x with
      | none => simp only [e1] at h'
      | some p =>
        cases e2 : dp E 4 y with
        | none => simp only [e1, e2] at h'
        | some p' =>
          simp only [e1, e2] at h'
          cases p' with
          | list ps =>
            simp only at h'
            obtain ⟨s1, s2, h'⟩ := h'
            refine ⟨_, op_inD hu, p, ps, ?_, ?_, s1, s2, fin_same he (rd_bl.mpr rfl) h' post⟩
            · rw [hK]; exact dp_ok he 4 x p v e1 hx
            · rw [hK]; exact dp_ok he 4 y _ _ e2 hy
          | _ => exact h'.elim
  cases y with
  | str b =>
    cases x with
    | str c =>
      match c, h with
      | [c], h =>
        rw [rd_str] at hx hy; subst hx hy
        exact ⟨_, op_in_sign, c, toS b, rfl, rfl, fin_same he (rd_bl.mpr rfl) h post⟩
    | _ => exact h.elim
  | tup ds =>
    unfold inR at h
    obtain ⟨f1, f2, h⟩ := h
    unfold RD at hy
    obtain ⟨a, vs, rfl, hs, hr⟩ := hy
    refine ⟨_, op_in_seq, a, vs, rfl, .inr (by rw [hK]; exact hs), flat_ok hx f1, flats_ok hr f2, ?_⟩
    rw [if_neg Bool.false_ne_true, inF_ok hx f1 hr f2]
    exact fin_same he (rd_bl.mpr rfl) h post
  | lst ds => exact seq (fun z => nomatch z) (fun _ z => nomatch z) rfl
  | ref a =>
    unfold inR at h
    cases el : lv E (.ref a) with
    | none => simp only [el] at h
    | some ds => exact seq (fun z => nomatch z) (fun _ z => nomatch z) el
  | _ => exact (show False from h).elim
theorem nin_ok (hu : X.A.units + 65 < cLine) (hK : X.K = T.K) : OpR X (compareOp .NotIn) (Lo T fun x y E q => inR E x y fun k => q (.bl (!k)) E) := by
  refine OpR.by fun v w H Q ⟨x, y, E, q, he, hx, hy, h, post⟩ => ?_
  dsimp only at h
  have seq : ∀ {ds : List D}, y ≠ .tup ds → (∀ z, y ≠ .str z) → lv E y = some ds → ∃ r', OpR X (compareOp .NotIn) r' ∧ r' v w H Q := fun {ds} n1 n2 el => by
    have h' : if (flat x && ds.all flat) = true then q (.bl (!ds.any fun z => eqF z x)) E else (match dp E 4 x, dp E 4 y with
      | some p, some (.list ps) => SeqAt.shaped p = true ∧ SeqAt.shaped (.list ps) = true ∧ q (.bl (!ps.any fun z => PyData.eqv z p)) E
      | _, _ => False) := by
      cases y with
      | tup es => cases el
      | str z => exact absurd rfl (n2 z)
      | lst es => unfold inR at h; simp only [el] at h; exact h
      | ref a => unfold inR at h; simp only [el] at h; exact h
      | _ => cases el
    obtain ⟨a, vs, rfl, hs, hr⟩ := lv_ok he hy el
    by_cases f : (flat x && ds.all flat) = true
    · rw [if_pos f] at h'
      rw [Bool.and_eq_true] at f
      refine ⟨_, op_notIn_seq, a, vs, rfl, .inl (hs.sq hK), flat_ok hx f.1, flats_ok hr f.2, ?_⟩
      rw [if_pos rfl, inF_ok hx f.1 hr f.2]
      exact fin_same he (rd_bl.mpr rfl) h' post
    · rw [if_neg f] at h'
      cases e1 : dp E 4 x with
      | none => simp only [e1] at h'
      | some p =>
        cases e2 : dp E 4 y with
        | none => simp only [e1, e2] at h'
        | some p' =>
          simp only [e1, e2] at h'
          cases p' with
          | list ps =>
            simp only at h'
            obtain ⟨s1, s2, h'⟩ := h'
            refine ⟨_, op_notInD hu, p, ps, ?_, ?_, s1, s2, fin_same he (rd_bl.mpr rfl) h' post⟩
            · rw [hK]; exact dp_ok he 4 x p v e1 hx
            · rw [hK]; exact dp_ok he 4 y _ _ e2 hy
          | _ => exact h'.elim
  cases y with
  | str b =>
    cases x with
    | str c =>
      match c, h with
      | [c], h =>
        rw [rd_str] at hx hy; subst hx hy
        exact ⟨_, op_notIn_sign, c, toS b, rfl, rfl, fin_same he (rd_bl.mpr rfl) h post⟩
    | _ => exact h.elim
  | tup ds =>
    unfold inR at h
    obtain ⟨f1, f2, h⟩ := h
    unfold RD at hy
    obtain ⟨a, vs, rfl, hs, hr⟩ := hy
    refine ⟨_, op_notIn_seq, a, vs, rfl, .inr (by rw [hK]; exact hs), flat_ok hx f1, flats_ok hr f2, ?_⟩
    rw [if_pos rfl, inF_ok hx f1 hr f2]
    exact fin_same he (rd_bl.mpr rfl) h post
  | lst ds => exact seq (fun z => nomatch z) (fun _ z => nomatch z) rfl
  | ref a =>
    unfold inR at h
    cases el : lv E (.ref a) with
    | none => simp only [el] at h
    | some ds => exact seq (fun z => nomatch z) (fun _ z => nomatch z) el
  | _ => exact (show False from h).elim
def cop : Cop → CmpOp
  | .eq => .Eq | .ne => .NotEq | .lt => .Lt | .le => .LtE | .gt => .Gt | .ge => .GtE | .is => .Is | .isn => .IsNot | .isin => .In | .nin => .NotIn
theorem cmp_ok (hu : X.A.units + 65 < cLine) (hK : X.K = T.K) (op : Cop) : OpR X (compareOp (cop op)) (Lo T fun x y E q => cmpR op E x y fun k => q (.bl k) E) := by
  cases op with
  | eq => exact eq_ok (by omega) hK
  | ne => exact ne_ok (by omega) hK
  | lt => exact lt_ok
  | le => exact le_ok
  | gt => exact gt_ok
  | ge => exact ge_ok
  | is => exact is_ok
  | isn => exact isn_ok
  | isin => exact in_ok hu hK
  | nin => exact nin_ok hu hK
end
end DL

set_option Elab.async false
set_option linter.all false
set_option maxRecDepth 100000
namespace DL
open PySem L2 PySem.Spec PyProof.Rows

/-! # rules of the layer, for what is frozen too -/
theorem flat_rep {α : Type} (n : Nat) (a : Array α) : (List.replicate n a).foldl (fun x y => x ++ y) #[] = (List.replicate n a.toList).flatten.toArray := by
  have key : ∀ (n : Nat) (b : Array α), (List.replicate n a).foldl (fun x y => x ++ y) b = b ++ (List.replicate n a.toList).flatten.toArray := by
    intro n
    induction n with
    | zero => intro b; simp
    | succ n ih => intro b; rw [List.replicate_succ, List.foldl_cons, ih, List.replicate_succ, List.flatten_cons]; apply Array.ext'; simp
  rw [key]; simp

section
variable {X : Cx} {K : PySem.W.Frag} {pins : List (Addr × Obj)} {σ : L2.St} {H : Hp} {s : Shared} {l : Addr} {xs : List V}
theorem rdM (hK : X.K = K) (I : Inv X pins σ H s) (h : RdK K H l xs) : xs.length ≤ sizeLine ∧ ∃ (its : List Value) (n : Nat), Vals xs its ∧ xs.length = its.length ∧ s.heap.get? l = some { cls := .type "list", data := .seq its.toArray n } := by
  subst hK
  rcases h with h | ⟨its, n, e, z, r⟩
  · obtain ⟨z, its, n, r, e⟩ := h.ok I.hok
    exact ⟨z, its, n, r, r.length, e⟩
  · exact ⟨z, its, n, r, r.length, I.kIn _ _ e⟩
end
section
variable {X : Cx}
def rCatF (K : PySem.W.Frag) : R2 := fun x y H Q => ∃ l b xs zs, x = .ref l ∧ y = .ref b ∧ RdK K H l xs ∧ RdK K H b zs ∧ xs.length + zs.length ≤ sizeLine ∧ ∀ p, H p = none → Q (.ref p) (upd H p (.lst (xs ++ zs)))
theorem op_catF {K : PySem.W.Frag} (hK : X.K = K) : OpR X (binaryOp .Add) (rCatF K) := by
  rintro pins s σ H x y v u Q I rx ry ⟨l, b, xs, zs, rfl, rfl, h1, h2, hz, q⟩
  cases rx; cases ry
  obtain ⟨_, its, n, r, hl, e⟩ := rdM hK I h1
  obtain ⟨_, its2, n2, r2, hl2, e2⟩ := rdM hK I h2
  refine PySem.P.add_list e e2 ?_ (by simp only [List.size_toArray]; omega)
  rw [show its.toArray ++ its2.toArray = (its ++ its2).toArray by simp]
  exact ⟨.ref _, _, I.lnew (t' := s.toks) (r.append r2) (by simp only [List.length_append]; omega), rfl, q _ I.fresh⟩
def rRepF (K : PySem.W.Frag) : R2 := fun x y H Q => ∃ l k xs, x = .ref l ∧ y = .int k ∧ RdK K H l xs ∧ -(2 ^ 63) ≤ k ∧ k < 2 ^ 63 ∧ xs.length * k.toNat ≤ sizeLine ∧
  ∀ p, H p = none → Q (.ref p) (upd H p (.lst (List.replicate k.toNat xs).flatten))
theorem op_repF {K : PySem.W.Frag} (hK : X.K = K) : OpR X (binaryOp .Mult) (rRepF K) := by
  rintro pins s σ H x y v u Q I rx ry ⟨l, k, xs, rfl, rfl, h1, k1, k2, hz, q⟩
  cases rx
  obtain ⟨t, rfl⟩ := ry
  obtain ⟨_, its, n, r, hl, e⟩ := rdM hK I h1
  have z1 : its.toArray.size * k.toNat ≤ sizeLine := by simp only [List.size_toArray]; rw [← hl]; exact hz
  have z2 : (sizeLine : Nat) ≤ (2 ^ 63 - 1) / 8 := by decide
  have f1 : ¬ (!Builtin.List.listFitsIndex k) = true := by rw [fitsIndex_both k1 k2]; exact Bool.false_ne_true
  have f2 : ¬ Builtin.List.listTooLong (its.toArray.size * k.toNat) = true := by rw [notLongL z1]; exact Bool.false_ne_true
  have f3 : (List.replicate (if its.toArray.isEmpty = true then 0 else k.toNat) its.toArray).foldl (fun x1 x2 => x1 ++ x2) #[] = (List.replicate k.toNat its).flatten.toArray := by
    rw [flat_rep]
    cases its <;> simp
  refine wpAny_binaryOp_repeat_ref (T := "list") (U := "int") (by decide) ⟨_, e, rfl⟩ (fun s' => typeIs_int s' k t) noFill_list_mul F.fills_int_mul F.slot_int_rmul repeat_list F.slot_int_index.lookup
    (call_meets F.slot_int_rmul (typeIs_int s k t) F.entry_int_rmul (F.args_int_rmul_2 _ _) (int___rmul___int_list k t l its.toArray n)
      ⟨e, rfl, ⟨_, e, rfl⟩, call_meets F.slot_list_mul ⟨_, e, rfl⟩ F.entry_list_mul (F.args_list_mul_2 _ _) (AutoListH.list___mul___list_int_3 l its.toArray n k t f1 (by omega) f2) ⟨e, ?_⟩⟩)
  rw [f3]
  exact ⟨.ref _, _, I.lnew (t' := s.toks) (r.rep k.toNat) (by rw [lm_len_rep_flat, Nat.mul_comm]; exact hz), rfl, q _ I.fresh⟩
def rExtF (K : PySem.W.Frag) : R2 := fun x y H Q => ∃ l b xs zs, x = .ref l ∧ y = .ref b ∧ H l = some (.lst xs) ∧ RdK K H b zs ∧ xs.length + zs.length ≤ sizeLine ∧ Q (.ref l) (upd H l (.lst (xs ++ zs)))
theorem iop_extF {K : PySem.W.Frag} (hK : X.K = K) : OpR X (inplaceOp .Add) (rExtF K) := by
  rintro pins s σ H x y v u Q I rx ry ⟨l, b, xs, zs, rfl, rfl, h1, h2, hz, q⟩
  cases rx; cases ry
  obtain ⟨_, its, n, r, hl, e⟩ := I.lstM h1
  obtain ⟨_, its2, n2, r2, hl2, e2⟩ := rdM hK I h2
  have z1 : its.toArray.size + its2.toArray.size ≤ sizeLine := by simp only [List.size_toArray]; omega
  have z2 : ¬ (!its.toArray.isEmpty && Builtin.List.listTooLong (its.toArray.size + its2.toArray.size)) = true := by rw [notLongL z1, Bool.and_false]; exact Bool.false_ne_true
  refine iadd_road ⟨_, e, rfl⟩ ⟨_, e2, rfl⟩ (call_meets PySem.F.slot_list_iadd ⟨_, e, rfl⟩ PySem.F.entry_list_iadd (PySem.F.args_list_iadd_2 _ _)
    (AutoSeq1.list___iadd___list_list_0 l _ n b _ n2 z2 (by simp only [List.size_toArray]; omega) (by omega)) ⟨e, e2, ?_⟩)
  exact ⟨.ref l, _, I.lset (its' := its ++ its2) (t' := s.toks) h1 e (by simp) (r.append r2) (by simp only [List.length_append]; omega), rfl, q⟩
theorem op_powW : OpR X (binaryOp .Pow) (rI (fun i j => 0 ≤ j ∧ ((i.natAbs.log2 + 1 : Nat) : Int) * j ≤ 2 ^ 27) fun i j => .int (i ^ j.toNat)) := opI fun i j _ _ _ _ _ hc q => by
  obtain ⟨h0, h1⟩ : 0 ≤ j ∧ ((i.natAbs.log2 + 1 : Nat) : Int) * j ≤ 2 ^ 27 := hc
  refine PyProof.Rows.pow_int h0 (Int.le_trans (Int.mul_le_mul_of_nonneg_right ?_ h0) h1) q
  have b : Builtin.Int.intBits i ≤ i.natAbs.log2 + 1 := by
    unfold Builtin.Int.intBits
    split <;> omega
  exact Int.ofNat_le.mpr b
theorem op_mulS : OpR X (binaryOp .Mult) (fun x y H Q => ∃ (a : List Nat) (n : Int), x = .str (toS a) ∧ y = .int n ∧ a.length ≠ 0 ∧ n.toNat * a.length ≤ 16777216 ∧ n < 16777216 ∧ -16777216 < n ∧ Q (.str (toS (rep n.toNat a))) H) := by
  rintro pins s σ H x y v u Q I rx ry ⟨a, n, rfl, rfl, h0, h1, h2, h3, q⟩
  obtain ⟨t, rfl⟩ := rx
  obtain ⟨t', rfl⟩ := ry
  refine PySem.P.mul_str (by simp; omega) (fun h5 h6 => ?_) (fun h5 h6 => ?_) ?_
  · rw [toS_len]
    intro h7
    have h8 : (a.length : Int) * n ≤ 16777216 := by
      have : (n.toNat : Int) = n := Int.toNat_of_nonneg (by omega)
      rw [← this, ← Int.natCast_mul, Nat.mul_comm]; exact Int.ofNat_le.mpr h1
    have h9 : (2 ^ 63 - 1 : Int) / n ≥ 16777216 * 32767 / 16777216 * 1 := by
      have : (2 ^ 63 - 1 : Int) / n ≥ (2 ^ 63 - 1) / 16777216 := by
        apply Int.le_ediv_of_mul_le (by omega)
        have := Int.ediv_mul_le (2 ^ 63 - 1 : Int) (b := 16777216) (by decide)
        have h10 : (2 ^ 63 - 1 : Int) / 16777216 * n ≤ (2 ^ 63 - 1 : Int) / 16777216 * 16777216 := Int.mul_le_mul_of_nonneg_left (by omega) (by decide)
        omega
      omega
    have h11 : (2 ^ 63 - 1 : Int) / n ≥ 549755813887 := by
      apply Int.le_ediv_of_mul_le (by omega)
      have : (549755813887 : Int) * n ≤ 549755813887 * 16777216 := Int.mul_le_mul_of_nonneg_left (by omega) (by decide)
      omega
    have h12 : (a.length : Int) ≤ 16777216 := by
      have : (a.length : Int) * 1 ≤ (a.length : Int) * n := Int.mul_le_mul_of_nonneg_left (by omega) (by omega)
      omega
    omega
  · rw [toS_len]
    unfold Builtin.Str.tooLong
    rw [sizeLine_eq]
    exact decide_eq_false (by rw [Nat.mul_comm]; omega)
  · by_cases h5 : n < 1
    · rw [if_pos h5]
      refine ⟨by decide, ?_⟩
      have e : n.toNat = 0 := by omega
      rw [e] at q
      exact ⟨.str (toS []), H, I.tok _, ⟨_, rfl⟩, by simpa [rep] using q⟩
    · rw [if_neg h5]
      by_cases h6 : (n == 1 || (toS a).length == 0) = true
      · rw [if_pos h6, toS_len] at *
        have e : n = 1 := by simp at h6; rcases h6 with h6 | h6; exact h6; exact absurd (by rw [h6]; rfl) h0
        subst e
        have e2 : rep (Int.toNat 1) a = a := by simp [rep]
        rw [e2] at q
        exact ⟨.str (toS a), H, I, ⟨_, rfl⟩, q⟩
      · rw [if_neg h6]
        have e2 : ((List.replicate n.toNat (toS a).cps).foldl (fun x1 x2 => x1 ++ x2) #[]) = (rep n.toNat a).toArray := by rw [flat_rep]; rfl
        rw [e2]
        refine ⟨?_, ?_⟩
        · show (toS (rep n.toNat a)).length ≤ sizeLine
          rw [toS_len, sizeLine_eq]
          unfold rep
          rw [lm_len_rep_flat]
          exact h1
        · exact ⟨.str (toS (rep n.toNat a)), H, I.tok _, ⟨_, rfl⟩, q⟩
end
end DL

set_option Elab.async false
set_option linter.all false
set_option maxRecDepth 100000
namespace DL
open PySem L2

section
variable {T : Tb} {E : En} {H : Hp} {X : Cx}
theorem RDs.rep {ds : List D} {vs : List V} (h : RDs T.K H ds vs) : ∀ n : Nat, RDs T.K H (List.replicate n ds).flatten (List.replicate n vs).flatten
  | 0 => by simp only [List.replicate_zero, List.flatten_nil]; exact .nil
  | n + 1 => by simp only [List.replicate_succ, List.flatten_cons]; exact h.append (RDs.rep h n)
def bop : Bop → Operator
  | .add => .Add | .sub => .Sub | .mul => .Mult | .mod => .Mod | .fdiv => .FloorDiv | .pow => .Pow
theorem bop_ok (hK : X.K = T.K) (op : Bop) (m : Bool) : OpR X (binaryOp (bop op)) (Lo T fun x y E q => bopR op m E x y q) := by
  refine OpR.by fun v w H Q ⟨x, y, E, q, he, hx, hy, h, post⟩ => ?_
  dsimp only at h
  cases op with
  | add =>
    have lst : ∀ a b, lv E x = some a → lv E y = some b → newL m (a ++ b) E q → ∃ r', OpR X (binaryOp (bop .add)) r' ∧ r' v w H Q := fun a b e1 e2 h => by
      obtain ⟨p, vs, rfl, h1, r1⟩ := lv_ok he hx e1
      obtain ⟨p2, vs2, rfl, h2, r2⟩ := lv_ok he hy e2
      refine ⟨_, OpR.fz (op_catF hK), p, p2, vs, vs2, rfl, rfl, h1, h2, ?_, newL_go he (r1.append r2) h post⟩
      have := newL_len h
      rw [List.length_append] at this
      rw [r1.length, r2.length]; exact this
    cases x with
    | int i => cases y with
      | int j => rw [rd_int] at hx hy; subst hx hy; exact ⟨_, op_add, i, j, rfl, rfl, fin_same he (rd_int.mpr rfl) h post⟩
      | _ => exact (show False from h).elim
    | str a => cases y with
      | str b =>
        rw [rd_str] at hx hy; subst hx hy
        obtain ⟨h1, h⟩ := h
        exact ⟨_, op_add_str, _, _, rfl, rfl, by rw [toS_len, toS_len, sizeLine_eq]; exact h1, fin_same he (rd_str.mpr (by rw [toS_app])) h post⟩
      | _ => exact (show False from h).elim
    | lst a =>
      cases e2 : lv E y with
      | none => unfold bopR at h; simp only [lv] at h; cases y <;> first | exact (show False from h).elim | (simp only [lv] at e2 h; simp only [e2] at h) | cases e2
      | some b => exact lst a b rfl e2 (by unfold bopR at h; simp only [lv] at h; cases y <;> first | (simp only [lv] at e2; cases e2; done) | (simp only [lv] at e2 h; simp only [e2] at h; exact h) | (cases e2; exact h))
    | ref a =>
      unfold bopR at h
      cases e1 : lv E (.ref a) with
      | none => simp only [e1] at h
      | some a' =>
        cases e2 : lv E y with
        | none => simp only [e1, e2] at h
        | some b => simp only [e1, e2] at h; exact lst _ _ e1 e2 h
    | _ => cases y <;> exact (show False from h).elim
  | sub => cases x with
    | int i => cases y with
      | int j => rw [rd_int] at hx hy; subst hx hy; exact ⟨_, op_sub, i, j, rfl, rfl, fin_same he (rd_int.mpr rfl) h post⟩
      | _ => exact (show False from h).elim
    | _ => cases y <;> exact (show False from h).elim
  | mod => cases x with
    | int i => cases y with
      | int j => rw [rd_int] at hx hy; subst hx hy; exact ⟨_, op_mod, i, j, rfl, rfl, h.1, fin_same he (rd_int.mpr rfl) h.2 post⟩
      | _ => exact (show False from h).elim
    | _ => cases y <;> exact (show False from h).elim
  | fdiv => cases x with
    | int i => cases y with
      | int j => rw [rd_int] at hx hy; subst hx hy; exact ⟨_, op_fdivW, i, j, rfl, rfl, h.1, fin_same he (rd_int.mpr rfl) h.2 post⟩
      | _ => exact (show False from h).elim
    | _ => cases y <;> exact (show False from h).elim
  | pow => cases x with
    | int i => cases y with
      | int j => rw [rd_int] at hx hy; subst hx hy; exact ⟨_, op_powW, i, j, rfl, rfl, ⟨h.1, h.2.1⟩, fin_same he (rd_int.mpr rfl) h.2.2 post⟩
      | _ => exact (show False from h).elim
    | _ => cases y <;> exact (show False from h).elim
  | mul =>
    have lst : ∀ a b, lv E x = some a → y = .bl b → newL m (if b = true then a else []) E q → ∃ r', OpR X (binaryOp (bop .mul)) r' ∧ r' v w H Q := fun a b e1 e2 hn => by
      subst e2
      rw [rd_bl] at hy; subst hy
      obtain ⟨p, vs, rfl, h1, r1⟩ := lv_ok he hx e1
      refine ⟨_, OpR.fz op_mul_lb, p, vs, b, rfl, rfl, h1.sq hK, newL_go he ?_ hn post⟩
      cases b
      · exact .nil
      · exact r1
    have lsn : ∀ a n, lv E x = some a → y = .int n → n < 16777216 ∧ -16777216 < n ∧ newL m (List.replicate n.toNat a).flatten E q → ∃ r', OpR X (binaryOp (bop .mul)) r' ∧ r' v w H Q := fun a n e1 e2 hn => by
      subst e2
      rw [rd_int] at hy; subst hy
      obtain ⟨n1, n2, hn⟩ := hn
      obtain ⟨p, vs, rfl, h1, r1⟩ := lv_ok he hx e1
      refine ⟨_, OpR.fz (op_repF hK), p, n, vs, rfl, rfl, h1, by omega, by omega, ?_, newL_go he (RDs.rep r1 n.toNat) hn post⟩
      have := newL_len hn
      rw [PyProof.Rows.lm_len_rep_flat] at this
      rw [r1.length, Nat.mul_comm]; exact this
    cases x with
    | int i => cases y with
      | int j => rw [rd_int] at hx hy; subst hx hy; exact ⟨_, op_mulW, i, j, rfl, rfl, h.1, fin_same he (rd_int.mpr rfl) h.2 post⟩
      | _ => exact (show False from h).elim
    | str a => cases y with
      | int n =>
        rw [rd_str] at hx; rw [rd_int] at hy; subst hx hy
        obtain ⟨h1, h2, h3, h4, h⟩ := h
        exact ⟨_, op_mulS, a, n, rfl, rfl, h1, h2, h3, h4, fin_same he (rd_str.mpr rfl) h post⟩
      | _ => exact (show False from h).elim
    | lst a => cases y with
      | bl b => exact lst a b rfl rfl h
      | int n => exact lsn a n rfl rfl h
      | _ => exact (show False from h).elim
    | ref a => cases y with
      | bl b =>
        unfold bopR at h
        cases e1 : lv E (.ref a) with
        | none => simp only [e1] at h
        | some a' => simp only [e1] at h; exact lst a' b e1 rfl h
      | int n =>
        unfold bopR at h
        cases e1 : lv E (.ref a) with
        | none => simp only [e1] at h
        | some a' => simp only [e1] at h; exact lsn a' n e1 rfl h
      | _ => exact (show False from h).elim
    | _ => cases y <;> exact (show False from h).elim
end
end DL

set_option Elab.async false
set_option linter.all false
set_option maxRecDepth 100000
namespace DL
open PySem L2

section
variable {T : Tb} {E : En} {H : Hp} {X : Cx}
theorem beq_neg {n : Nat} : ((n : Int) != 0) = !(decide (n = 0)) := by
  rw [Bool.eq_iff_iff]; simp
theorem isE {α : Type} (l : List α) : (((l.length : Nat) : Int) != 0) = !l.isEmpty := by
  cases l <;> rfl
theorem rds_isE {ds : List D} {vs : List V} (h : RDs T.K H ds vs) : (!vs.isEmpty) = !ds.isEmpty := by
  have := h.length
  cases vs <;> cases ds <;> first | rfl | (simp at this)
/-- truth -/
theorem tru_go (hK : X.K = T.K) {x : D} {v : V} {k : Bool → Prop} {Q : Bool → Hp → Prop} (he : RE T H E) (hx : RD T.K H x v) (h : truR E x k) (post : ∀ b, k b → Q b H) : ∃ k', TruV X.K v H k' ∧ Q k' H := by
  cases x with
  | non => rw [rd_non] at hx; subst hx; exact ⟨false, rfl, post _ h⟩
  | bl b => rw [rd_bl] at hx; subst hx; exact ⟨b, rfl, post _ h⟩
  | int i => rw [rd_int] at hx; subst hx; exact ⟨i != 0, rfl, post _ h⟩
  | str z =>
    rw [rd_str] at hx; subst hx
    refine ⟨!z.isEmpty, ⟨by rw [toS_len, sizeLine_eq]; exact h.1, ?_⟩, post _ h.2⟩
    rw [toS_len, isE]
  | tup ds =>
    unfold RD at hx
    obtain ⟨a, vs, rfl, hs, hr⟩ := hx
    exact ⟨!ds.isEmpty, .inr (.inl ⟨vs, by rw [hK]; exact hs, (rds_isE hr).symm⟩), post _ h⟩
  | lst ds =>
    obtain ⟨a, vs, rfl, hs, hr⟩ := lv_ok he hx rfl
    exact ⟨!ds.isEmpty, .inl ⟨vs, hs.sq hK, (rds_isE hr).symm⟩, post _ h⟩
  | ref a =>
    unfold truR at h
    cases e : E a with
    | none => simp only [e] at h
    | some c => cases c with
      | ins _ _ => simp only [e] at h
      | lst ds =>
        simp only [e] at h
        obtain ⟨a, vs, rfl, hs, hr⟩ := lv_ok he hx (by unfold lv; simp only [e]; rfl)
        exact ⟨!ds.isEmpty, .inl ⟨vs, hs.sq hK, (rds_isE hr).symm⟩, post _ h⟩

/-! # built-ins -/
theorem one_inv {ds : List D} {k : D → Prop} (h : one ds k) : ∃ x, ds = [x] ∧ k x := by
  match ds, h with
  | [x], h => exact ⟨x, rfl, h⟩
theorem two_inv {ds : List D} {k : D → D → Prop} (h : two ds k) : ∃ x y, ds = [x, y] ∧ k x y := by
  match ds, h with
  | [x, y], h => exact ⟨x, y, rfl, h⟩
theorem asI_inv {x : D} {k : Int → Prop} (h : asI x k) : ∃ i, x = .int i ∧ k i := by
  cases x <;> first | exact ⟨_, rfl, h⟩ | exact h.elim
theorem asB_inv {x : D} {k : Bool → Prop} (h : asB x k) : ∃ i, x = .bl i ∧ k i := by
  cases x <;> first | exact ⟨_, rfl, h⟩ | exact h.elim
theorem asS_inv {x : D} {k : List Nat → Prop} (h : asS x k) : ∃ i, x = .str i ∧ k i := by
  cases x <;> first | exact ⟨_, rfl, h⟩ | exact h.elim
theorem asT_inv {x : D} {k : List D → Prop} (h : asT x k) : ∃ i, x = .tup i ∧ k i := by
  cases x <;> first | exact ⟨_, rfl, h⟩ | exact h.elim
theorem opt_inv {α : Type} {o : Option α} {k : α → Prop} (h : opt o k) : ∃ a, o = some a ∧ k a := by
  cases o with
  | none => exact h.elim
  | some a => exact ⟨a, rfl, h⟩
theorem asL_inv {x : D} {k : List D → Prop} (h : asL E x k) : ∃ xs, lv E x = some xs ∧ k xs := by
  unfold asL at h
  cases e : lv E x with
  | none => rw [e] at h; exact h.elim
  | some xs => rw [e] at h; exact ⟨xs, rfl, h⟩
theorem asC_inv {x : D} {k : Addr → List D → Prop} (h : asC E x k) : ∃ a xs, x = .ref a ∧ E a = some (.lst xs) ∧ k a xs := by
  cases x with
  | ref a =>
    unfold asC at h
    cases e : E a with
    | none => simp only [e] at h
    | some c => cases c with
      | ins _ _ => simp only [e] at h
      | lst xs => simp only [e] at h; exact ⟨a, xs, rfl, e, h⟩
  | _ => exact h.elim
theorem asQ_inv {x : D} {k : List D → Prop} (h : asQ E x k) : ∃ xs, k xs ∧ ((x = .tup xs) ∨ lv E x = some xs) := by
  by_cases c : ∃ xs, x = .tup xs
  · obtain ⟨xs, rfl⟩ := c
    exact ⟨xs, h, .inl rfl⟩
  · have e : asQ E x k = asL E x k := by cases x <;> first | rfl | exact (c ⟨_, rfl⟩).elim
    rw [e] at h
    obtain ⟨xs, e, q⟩ := asL_inv h
    exact ⟨xs, q, .inr e⟩
/-- a list or a tuple, as it stands -/
theorem asQ_ok (hK : X.K = T.K) {x : D} {v : V} {k : List D → Prop} (he : RE T H E) (hx : RD T.K H x v) (h : asQ E x k) : ∃ xs a vs, k xs ∧ v = .ref a ∧ (SqL X.K H a vs ∨ SqT X.K H a vs) ∧ RDs T.K H xs vs := by
  obtain ⟨xs, q, e | e⟩ := asQ_inv h
  · subst e
    unfold RD at hx
    obtain ⟨a, vs, rfl, hs, hr⟩ := hx
    exact ⟨xs, a, vs, q, rfl, .inr (by rw [hK]; exact hs), hr⟩
  · obtain ⟨a, vs, rfl, hs, hr⟩ := lv_ok he hx e
    exact ⟨xs, a, vs, q, rfl, .inl (hs.sq hK), hr⟩
theorem len_ok (hK : X.K = T.K) (m : Bool) : CallR X (.builtin "len") (L1 T fun ds E q => biR .len m E ds q) := by
  refine CallR.by fun vs H Q ⟨ds, E, q, he, hd, h, post⟩ => ?_
  obtain ⟨x, rfl, h⟩ := one_inv (show one ds _ from h)
  obtain ⟨v, rfl, hx⟩ := rds_one hd
  refine ⟨_, call_len, v, ?_⟩
  have main : (asQ E x fun xs => q (.int xs.length) E) → ∃ n : Nat, v :: [] = [v] ∧ LenV X.K v H n ∧ Q (.int n) H := fun h => by
    obtain ⟨xs, a, vs, h, rfl, hs, hr⟩ := asQ_ok hK he hx h
    exact ⟨_, rfl, hs.elim (fun hs => .inl ⟨vs, hs, rfl⟩) fun hs => .inr ⟨vs, hs, rfl⟩, fin_same he (rd_int.mpr (by rw [hr.length])) h post⟩
  cases x with
  | str z => rw [rd_str] at hx; subst hx; exact ⟨_, rfl, ⟨by rw [toS_len, sizeLine_eq]; exact h.1, rfl⟩, fin_same he (rd_int.mpr (by rw [toS_len])) h.2 post⟩
  | _ => exact main h
theorem all_ok (hK : X.K = T.K) (hc : X.calm = true) (m : Bool) : CallR X (.builtin "all") (L1 T fun ds E q => biR .all m E ds q) := by
  refine CallR.by fun vs H Q ⟨ds, E, q, he, hd, h, post⟩ => ?_
  obtain ⟨x, rfl, h⟩ := one_inv (show one ds _ from h)
  obtain ⟨v, rfl, hx⟩ := rds_one hd
  obtain ⟨es, e, h⟩ := asL_inv h
  obtain ⟨bs, e2, h⟩ := opt_inv h
  obtain ⟨a, vs, rfl, hs, hr⟩ := lv_ok he hx e
  refine ⟨_, cr_all hc, a, bs, rfl, ?_, fin_same he (rd_bl.mpr rfl) h post⟩
  rw [← bls_ok hr e2]; exact hs.sq hK
theorem any_ok (hK : X.K = T.K) (hc : X.calm = true) (m : Bool) : CallR X (.builtin "any") (L1 T fun ds E q => biR .any m E ds q) := by
  refine CallR.by fun vs H Q ⟨ds, E, q, he, hd, h, post⟩ => ?_
  obtain ⟨x, rfl, h⟩ := one_inv (show one ds _ from h)
  obtain ⟨v, rfl, hx⟩ := rds_one hd
  obtain ⟨es, e, h⟩ := asL_inv h
  obtain ⟨bs, e2, h⟩ := opt_inv h
  obtain ⟨a, vs, rfl, hs, hr⟩ := lv_ok he hx e
  refine ⟨_, cr_any hc, a, bs, rfl, ?_, fin_same he (rd_bl.mpr rfl) h post⟩
  rw [← bls_ok hr e2]; exact hs.sq hK
theorem abs_ok (m : Bool) : CallR X (.builtin "abs") (L1 T fun ds E q => biR .abs m E ds q) := by
  refine CallR.by fun vs H Q ⟨ds, E, q, he, hd, h, post⟩ => ?_
  obtain ⟨x, rfl, h⟩ := one_inv (show one ds _ from h)
  obtain ⟨v, rfl, hx⟩ := rds_one hd
  obtain ⟨i, rfl, h⟩ := asI_inv h
  rw [rd_int] at hx; subst hx
  exact ⟨_, call_abs, i, rfl, fin_same he (rd_int.mpr rfl) h post⟩
theorem max2_ok (hc : X.calm = true) (m : Bool) : CallR X (.builtin "max") (L1 T fun ds E q => biR .max2 m E ds q) := by
  refine CallR.by fun vs H Q ⟨ds, E, q, he, hd, h, post⟩ => ?_
  obtain ⟨x, y, rfl, h⟩ := two_inv (show two ds _ from h)
  obtain ⟨i, rfl, h⟩ := asI_inv h
  obtain ⟨j, rfl, h⟩ := asI_inv h
  obtain ⟨v, w, rfl, hx, hy⟩ := rds_two hd
  rw [rd_int] at hx hy; subst hx hy
  exact ⟨_, call_max2 hc, i, j, rfl, fin_same he (rd_int.mpr rfl) h post⟩
theorem min2_ok (hc : X.calm = true) (m : Bool) : CallR X (.builtin "min") (L1 T fun ds E q => biR .min2 m E ds q) := by
  refine CallR.by fun vs H Q ⟨ds, E, q, he, hd, h, post⟩ => ?_
  obtain ⟨x, y, rfl, h⟩ := two_inv (show two ds _ from h)
  obtain ⟨i, rfl, h⟩ := asI_inv h
  obtain ⟨j, rfl, h⟩ := asI_inv h
  obtain ⟨v, w, rfl, hx, hy⟩ := rds_two hd
  rw [rd_int] at hx hy; subst hx hy
  exact ⟨_, call_min2 hc, i, j, rfl, fin_same he (rd_int.mpr rfl) h post⟩
theorem int_ok (m : Bool) : CallR X (.type "int") (L1 T fun ds E q => biR .int m E ds q) := by
  refine CallR.by fun vs H Q ⟨ds, E, q, he, hd, h, post⟩ => ?_
  obtain ⟨x, rfl, h⟩ := one_inv (show one ds _ from h)
  obtain ⟨v, rfl, hx⟩ := rds_one hd
  cases x with
  | int i => rw [rd_int] at hx; subst hx; exact ⟨_, call_int1, .inl ⟨i, rfl, fin_same he (rd_int.mpr rfl) h post⟩⟩
  | bl i => rw [rd_bl] at hx; subst hx; exact ⟨_, call_int1, .inr ⟨i, rfl, fin_same he (rd_int.mpr rfl) h post⟩⟩
  | str z =>
    rw [rd_str] at hx; subst hx
    obtain ⟨n, h1, h2, h⟩ := h
    exact ⟨_, call_int_str, toS z, n, rfl, h1, by rw [toS_len]; exact h2, fin_same he (rd_int.mpr rfl) h post⟩
  | _ => exact h.elim
theorem str_ok (m : Bool) : CallR X (.type "str") (L1 T fun ds E q => biR .str m E ds q) := by
  refine CallR.by fun vs H Q ⟨ds, E, q, he, hd, h, post⟩ => ?_
  obtain ⟨x, rfl, h⟩ := one_inv (show one ds _ from h)
  obtain ⟨v, rfl, hx⟩ := rds_one hd
  obtain ⟨i, rfl, h⟩ := asI_inv h
  rw [rd_int] at hx; subst hx
  refine ⟨_, call_str_int, i, rfl, h.1, fin_same he (rd_str.mpr ?_) h.2 post⟩
  exact congrArg V.str (TL.ext_tl (by unfold dec; exact TL.tl_ofString _))
theorem list_ok (hK : X.K = T.K) (m : Bool) : CallR X (.type "list") (L1 T fun ds E q => biR .list m E ds q) := by
  refine CallR.by fun vs H Q ⟨ds, E, q, he, hd, h, post⟩ => ?_
  obtain ⟨x, rfl, h⟩ := one_inv (show one ds _ from h)
  obtain ⟨v, rfl, hx⟩ := rds_one hd
  obtain ⟨xs, a, vs, h, rfl, hs, hr⟩ := asQ_ok hK he hx h
  exact ⟨_, CallR.fz call_list_of, a, vs, rfl, hs, newL_go he hr h post⟩
/-! repr -/
mutual
theorem dp_noDict {K : PySem.W.Frag} : ∀ (p : PyData) (v : V), Dp K H v p → p.hasDict = false
  | .none, _, _ => by simp only [PyData.hasDict]
  | .bool _, _, _ => by simp only [PyData.hasDict]
  | .int _, _, _ => by simp only [PyData.hasDict]
  | .str _, _, _ => by simp only [PyData.hasDict]
  | .list ps, _, h => by
    simp only [PyData.hasDict]
    cases h with
    | lst hs ha => exact dp_noDicts ps _ ha
  | .tuple ps, _, h => by
    simp only [PyData.hasDict]
    cases h with
    | tup hs ha => exact dp_noDicts ps _ ha
  | .dict _, _, h => by cases h
theorem dp_noDicts {K : PySem.W.Frag} : ∀ (ps : List PyData) (vs : List V), DpAll K H vs ps → PyData.hasDictAll ps = false
  | [], _, _ => by simp only [PyData.hasDictAll]
  | p :: ps, _, h => by
    cases h with
    | cons h1 h2 => simp only [PyData.hasDictAll, dp_noDict p _ h1, dp_noDicts ps _ h2, Bool.or_self]
end
theorem repr_ok (hK : X.K = T.K) (hg : X.A.guards = some []) (hu : X.A.units + 200 < cLine) (m : Bool) : CallR X (.builtin "repr") (L1 T fun ds E q => biR .repr m E ds q) := by
  intro pins s σ H vs us Q I rv ⟨ds, E, q, he, hd, h, post⟩
  obtain ⟨x, rfl, h⟩ := one_inv (show one ds _ from h)
  obtain ⟨v, rfl, hx⟩ := rds_one hd
  obtain ⟨p, e, h1, h2, h3, h⟩ := opt_inv h
  have hp := dp_ok he 4 x p v e hx
  have hn := dp_noDict p v hp
  obtain ⟨u, rfl, ru⟩ := vals1 rv
  rw [← hK] at hp
  obtain ⟨as, r⟩ := Dp.reads I p v u hp ru
  have ha : ∃ a, v = .ref a := by
    cases x with
    | tup ds => unfold RD at hx; obtain ⟨a, _, e, _⟩ := hx; exact ⟨a, e⟩
    | lst ds => unfold RD at hx; obtain ⟨a, _, e, _⟩ := hx; exact ⟨a, e⟩
    | ref a => rw [rd_ref] at hx; exact ⟨a, hx⟩
    | _ => exact (h1.elim)
  obtain ⟨a, rfl⟩ := ha
  cases (show u = Value.ref a from ru)
  refine repr_of_reads' r h2.1 (fun z => by rw [hn] at z; cases z) hg (by have := h2.2; omega) (fun _ _ z => z) (fun h' u tk hk => ?_) (by rw [sizeLine_eq]; exact h3)
  exact ⟨.str _, H, I.kept hk, ⟨_, rfl⟩, fin_same he (rd_str.mpr (congrArg V.str (toS_tl p.shown).symm)) h post⟩
/-! isinstance -/
def tyN : Ty → String
  | .int => "int" | .bool => "bool" | .str => "str" | .list => "list" | .tuple => "tuple" | .dict => "dict"
def tyD : D → String
  | .non => "NoneType" | .bl _ => "bool" | .int _ => "int" | .str _ => "str" | .tup _ => "tuple" | .lst _ => "list" | .ref _ => "list"
def tyAll (a : String) (f : Ty → Bool) : Bool := [Ty.int, .bool, .str, .list, .tuple, .dict].all fun t => decide (kitB a (tyN t) = some (f t))
theorem tyAll_of {a : String} {f : Ty → Bool} (h : tyAll a f = true) (t : Ty) : kitB a (tyN t) = some (f t) := by
  unfold tyAll at h
  simp only [List.all_cons, List.all_nil, Bool.and_true, Bool.and_eq_true, decide_eq_true_eq] at h
  obtain ⟨h1, h2, h3, h4, h5, h6⟩ := h
  cases t
  · exact h1
  · exact h2
  · exact h3
  · exact h4
  · exact h5
  · exact h6
theorem ty_non : tyAll "NoneType" (fun _ => false) = true := by decide +kernel
theorem ty_bool : tyAll "bool" (fun t => decide (t = .bool ∨ t = .int)) = true := by decide +kernel
theorem ty_int : tyAll "int" (fun t => decide (t = .int)) = true := by decide +kernel
theorem ty_str : tyAll "str" (fun t => decide (t = .str)) = true := by decide +kernel
theorem ty_list : tyAll "list" (fun t => decide (t = .list)) = true := by decide +kernel
theorem ty_tuple : tyAll "tuple" (fun t => decide (t = .tuple)) = true := by decide +kernel
/-- x's type is found -/
def rTy (T : Tb) (t : Ty) : V → Hp → VK → Prop := fun v H Q => ∃ (d : D) (E : En) (q : QE), RE T H E ∧ RD T.K H d v ∧ tyR E d t (fun k => q (.bl k) E) ∧ ∀ d E' v H', Stp E H E' H' → RE T H' E' → RD T.K H' d v → q d E' → Q v H'
theorem isi_ok (hK : X.K = T.K) (t : Ty) : CallR X (.builtin "isinstance") (fun vs H Q => ∃ v, vs = [v, .ty (tyN t)] ∧ rTy T t v H Q) := by
  refine CallR.by fun vs H Q ⟨v, e, d, E, q, he, hx, h, post⟩ => ?_
  subst e
  have main : ∀ {a : String} {f : Ty → Bool}, tyAll a f = true → TyX X.K H v (.type a) → q (.bl (f t)) E → ∃ r', CallR X (.builtin "isinstance") r' ∧ r' [v, .ty (tyN t)] H Q := fun {a f} h1 h2 h3 =>
    ⟨_, call_isi, v, .ty (tyN t), .type a, .type (tyN t), f t, rfl, .ty _, h2, kit_ty (tyAll_of h1 t), fin_same he (rd_bl.mpr rfl) h3 post⟩
  cases d with
  | non => rw [rd_non] at hx; subst hx; exact main ty_non (.base .non) h
  | bl b => rw [rd_bl] at hx; subst hx; exact main ty_bool (.base (.bl _)) h
  | int b => rw [rd_int] at hx; subst hx; exact main ty_int (.base (.int _)) h
  | str b => rw [rd_str] at hx; subst hx; exact main ty_str (.base (.str _)) h
  | tup ds =>
    unfold RD at hx
    obtain ⟨a, vs, rfl, hs, hr⟩ := hx
    rw [← hK] at hs
    rcases hs with (hs | ⟨o, hs⟩) | hs
    · exact main ty_tuple (.base (.tup hs)) h
    · exact main ty_tuple (.fTuple hs) h
    · obtain ⟨o, its, n, e1, e2, _⟩ := hs
      exact main ty_tuple (.kTuple e1 e2) h
  | lst ds =>
    unfold RD at hx
    obtain ⟨a, vs, rfl, hs, hr⟩ := hx
    rcases hs with ⟨o, hs⟩ | ⟨its, n, hs, _⟩
    · exact main ty_list (.base (.frz hs)) h
    · rw [← hK] at hs
      exact main ty_list (.kList hs rfl) h
  | ref a =>
    rw [rd_ref] at hx; subst hx
    unfold tyR at h
    cases e : E a with
    | none => simp only [e] at h
    | some c => cases c with
      | ins _ _ => simp only [e] at h
      | lst ds =>
        simp only [e] at h
        obtain ⟨vs, z, r⟩ := he a _ e
        exact main ty_list (.base (.lst z)) h
end
end DL

set_option Elab.async false
set_option linter.all false
set_option maxRecDepth 100000
namespace DL
open PySem L2

section
variable {T : Tb} {E : En} {H : Hp} {X : Cx}
/-! # a[i] -/
def Lx (T : Tb) (R : D → D → En → QE → Prop) : R2 := Lo T R
theorem IxR.by {r : R2} (h : ∀ x y H Q, r x y H Q → ∃ r', IxR X r' ∧ r' x y H Q) : IxR X r := fun value slice pins s σ H x y v u Q I rx ry q hs => by
  obtain ⟨r', h1, h2⟩ := h x y H Q q
  exact h1 value slice pins s σ H x y v u Q I rx ry h2 hs
theorem RDs.at {ds : List D} {vs : List V} {i : Int} {d : D} (hr : RDs T.K H ds vs) (h : atI ds i = some d) : ∃ v, atI vs i = some v ∧ RD T.K H d v := by
  unfold atI at h ⊢
  rw [hr.length]
  cases e : ixN ds.length i with
  | none => rw [e] at h; cases h
  | some j => rw [e] at h; exact hr.get h
theorem ix_ok (hK : X.K = T.K) : IxR X (Lo T fun x i E q => ixR E x i q) := by
  refine IxR.by fun v w H Q ⟨x, y, E, q, he, hx, hy, h, post⟩ => ?_
  obtain ⟨i, rfl, h⟩ := asI_inv (show asI y _ from h)
  rw [rd_int] at hy; subst hy
  have main : (asQ E x fun ds => opt (atI ds i) fun d => q d E) → ∃ r', IxR X r' ∧ r' v (.int i) H Q := fun h => by
    obtain ⟨xs, a, vs, h, rfl, hs, hr⟩ := asQ_ok hK he hx h
    obtain ⟨d, e, h⟩ := opt_inv h
    obtain ⟨z, e1, hz⟩ := hr.at e
    rcases hs with hs | hs
    · exact ⟨_, ix_list, a, vs, i, z, rfl, rfl, hs, e1, fin_same he hz h post⟩
    · exact ⟨_, ix_tup, a, vs, i, z, rfl, rfl, hs, e1, fin_same he hz h post⟩
  cases x with
  | str z =>
    rw [rd_str] at hx; subst hx
    obtain ⟨h1, h⟩ := h
    obtain ⟨c, e, h⟩ := opt_inv h
    exact ⟨_, ix_str, toS z, i, c, rfl, rfl, by rw [toS_len, sizeLine_eq]; exact h1, e, fin_same he (rd_str.mpr rfl) h post⟩
  | _ => exact main h

/-! # a[lo:hi] -/
def Ls (T : Tb) (R : D → Option Int → Option Int → En → QE → Prop) : V → Option Int → Option Int → Hp → VK → Prop := fun x lo hi H Q => ∃ d E q, RE T H E ∧ RD T.K H d x ∧ R d lo hi E q ∧ ∀ d E' v H', Stp E H E' H' → RE T H' E' → RD T.K H' d v → q d E' → Q v H'
theorem SlR.by {r : V → Option Int → Option Int → Hp → VK → Prop} (h : ∀ x lo hi H Q, r x lo hi H Q → ∃ r', SlR X r' ∧ r' x lo hi H Q) : SlR X r := fun pins s σ H x v vl vu lo hi sl Q I rx hs pl pu q => by
  obtain ⟨r', h1, h2⟩ := h x lo hi H Q q
  exact h1 pins s σ H x v vl vu lo hi sl Q I rx hs pl pu h2
theorem SlR.fz {r : V → Option Int → Option Int → Hp → VK → Prop} (h : SlR X r) : SlR X (fun x lo hi H Q => r x lo hi H (QF Q)) := fun pins s σ H x v vl vu lo hi sl Q I rx hs pl pu q => by
  obtain ⟨A, id, h1, h2, h3⟩ := h pins s σ H x v vl vu lo hi sl _ I rx hs pl pu q
  exact ⟨A, id, h1, h2, thn h3 fun _ _ z => EP.fz z⟩
theorem cut_len {α : Type} (xs : List α) (lo hi : Option Int) : (cut xs lo hi).length ≤ xs.length := by
  unfold cut
  rw [List.length_take, List.length_drop]
  omega
theorem rds_cut {ds : List D} {vs : List V} (hr : RDs T.K H ds vs) (lo hi : Option Int) : RDs T.K H (cut ds lo hi) (cutV vs lo hi) := by
  unfold cut cutV
  rw [hr.length]
  exact (hr.drop _).take _
theorem sl_ok (hK : X.K = T.K) (m : Bool) : SlR X (Ls T (fun x lo hi E q => slR m E x lo hi q)) := by
  refine SlR.by fun v lo hi H Q ⟨x, E, q, he, hx, h, post⟩ => ?_
  have main : (asL E x fun ds => newL m (cut ds lo hi) E q) → ∃ r', SlR X r' ∧ r' v lo hi H Q := fun h => by
    obtain ⟨ds, e, h⟩ := asL_inv h
    obtain ⟨a, vs, rfl, hs, hr⟩ := lv_ok he hx e
    exact ⟨_, SlR.fz sl_list, a, vs, rfl, hs.sq hK, newL_go he (rds_cut hr lo hi) h post⟩
  cases x with
  | str z =>
    rw [rd_str] at hx; subst hx
    refine ⟨_, sl_str, toS z, rfl, by rw [toS_len, sizeLine_eq]; exact h.1, fin_same he (rd_str.mpr ?_) h.2 post⟩
    unfold cutS cut toS
    rw [show (Str.mk z.toArray).length = z.length from toS_len z]
  | _ => exact main h

/-! # methods -/
def Lm (T : Tb) (R : D → List D → En → QE → Prop) : V → List V → Hp → VK → Prop := fun x vs H Q => ∃ d ds E q, RE T H E ∧ RD T.K H d x ∧ RDs T.K H ds vs ∧ R d ds E q ∧ ∀ d E' v H', Stp E H E' H' → RE T H' E' → RD T.K H' d v → q d E' → Q v H'
theorem MtR.by {id : String} {r : V → List V → Hp → VK → Prop} (h : ∀ x vs H Q, r x vs H Q → ∃ r', MtR X id r' ∧ r' x vs H Q) : MtR X id r := fun pins s σ H x xs v us Q I rx rs q => by
  obtain ⟨r', h1, h2⟩ := h x xs H Q q
  exact h1 pins s σ H x xs v us Q I rx rs h2
theorem MtR.fz {id : String} {r : V → List V → Hp → VK → Prop} (h : MtR X id r) : MtR X id (fun x vs H Q => r x vs H (QF Q)) := fun pins s σ H x xs v us Q I rx rs q => thn (h pins s σ H x xs v us _ I rx rs q) fun _ _ z => EP.fz z
theorem append_ok (m : Bool) : MtR X "list.append" (Lm T fun d ds E q => bmR .append m E d ds q) := by
  refine MtR.by fun v vs H Q ⟨o, ds, E, q, he, ho, hd, h, post⟩ => ?_
  obtain ⟨d, rfl, h⟩ := one_inv (show one ds _ from h)
  obtain ⟨w, rfl, hw⟩ := rds_one hd
  obtain ⟨a, xs, rfl, ea, h1, h⟩ := asC_inv h
  rw [rd_ref] at ho; subst ho
  obtain ⟨us, z, r⟩ := he a _ ea
  refine ⟨_, mt_append, a, us, w, rfl, rfl, z, by rw [r.length, sizeLine_eq]; exact h1, ?_⟩
  have hm := he.mut ea
  exact post .non _ _ _ (.put hm ea) (he.setL hm (r.append (.cons hw .nil))) (rd_non.mpr rfl) h
theorem RDs.erase : ∀ {xs : List D} {us : List V} (k : Nat), RDs T.K H xs us → RDs T.K H (xs.eraseIdx k) (us.eraseIdx k)
  | [], _, k, r => by have q := r; unfold RDs at q; subst q; exact r
  | x :: xs, _, 0, r => by unfold RDs at r; obtain ⟨v, t, rfl, a1, a2⟩ := r; exact a2
  | x :: xs, _, k + 1, r => by unfold RDs at r; obtain ⟨v, t, rfl, a1, a2⟩ := r; exact .cons a1 (a2.erase k)
theorem pop_ok (m : Bool) : MtR X "list.pop" (Lm T fun d ds E q => bmR .pop1 m E d ds q) := by
  refine MtR.by fun v vs H Q ⟨o, ds, E, q, he, ho, hd, h, post⟩ => ?_
  obtain ⟨d, rfl, h⟩ := one_inv (show one ds _ from h)
  obtain ⟨w, rfl, hw⟩ := rds_one hd
  obtain ⟨i, rfl, h⟩ := asI_inv h
  rw [rd_int] at hw; subst hw
  obtain ⟨a, xs, rfl, ea, h1, h2, h⟩ := asC_inv h
  obtain ⟨k, e1, h⟩ := opt_inv h
  obtain ⟨y, e2, h⟩ := opt_inv h
  rw [rd_ref] at ho; subst ho
  obtain ⟨us, z, r⟩ := he a _ ea
  obtain ⟨u, eu, hu⟩ := r.get e2
  have hm := he.mut ea
  have hr : RDs T.K H (xs.eraseIdx k) (us.eraseIdx k) := by
    exact r.erase k
  refine ⟨_, mt_popAt, a, us, i, k, u, rfl, rfl, z, by omega, by omega, by rw [r.length]; exact (ixN_seq e1).1, eu, ?_⟩
  exact post y _ _ _ (.put hm ea) (he.setL hm hr) (hu.grow (.mut hm)) h
theorem clear_ok (m : Bool) : MtR X "list.clear" (Lm T fun d ds E q => bmR .clear m E d ds q) := by
  refine MtR.by fun v vs H Q ⟨o, ds, E, q, he, ho, hd, h, post⟩ => ?_
  obtain ⟨e0, h2⟩ := (show ds = [] ∧ asC E o _ from h)
  obtain ⟨a, xs, e1, ea, h3⟩ := asC_inv h2
  subst e0 e1
  unfold RDs at hd; subst hd
  rw [rd_ref] at ho; subst ho
  obtain ⟨us, z, r⟩ := he a _ ea
  have hm := he.mut ea
  exact ⟨_, mt_clear, a, us, rfl, rfl, z, post .non _ _ _ (.put hm ea) (he.setL hm .nil) (rd_non.mpr rfl) h3⟩
theorem lens_ok (ys : List (List Nat)) : ((ys.map toS).map (·.length)) = ys.map List.length := by
  rw [List.map_map]
  exact List.map_congr_left fun y _ => toS_len y
theorem join_ok (hK : X.K = T.K) (m : Bool) : MtR X "str.join" (Lm T fun d ds E q => bmR .join m E d ds q) := by
  refine MtR.by fun v vs H Q ⟨o, ds, E, q, he, ho, hd, h, post⟩ => ?_
  obtain ⟨d, rfl, h⟩ := one_inv (show one ds _ from h)
  obtain ⟨w, rfl, hw⟩ := rds_one hd
  obtain ⟨sep, rfl, h⟩ := asS_inv h
  obtain ⟨xs, e1, h⟩ := asL_inv h
  obtain ⟨ys, e2, h1, h⟩ := opt_inv h
  rw [rd_str] at ho; subst ho
  obtain ⟨a, us, rfl, hs, hr⟩ := lv_ok he hw e1
  refine ⟨_, mt_join, toS sep, a, ys.map toS, rfl, rfl, .inl (by rw [← strs_ok hr e2]; exact hs.sq hK), ?_, fin_same he (rd_str.mpr ?_) h post⟩
  · rw [lens_ok, List.length_map, toS_len]; exact h1
  · refine congrArg V.str (TL.ext_tl ?_)
    rw [TL.join_eq, TL.tl_join, List.map_map]
    show TL.joinL sep _ = _
    rw [show ys.map (TL.tl ∘ toS) = ys from by rw [show (TL.tl ∘ toS) = id from funext fun _ => rfl, List.map_id]]
    rfl
theorem rds_strs : ∀ (ys : List (List Nat)), RDs T.K H (ys.map D.str) ((ys.map toS).map V.str)
  | [] => .nil
  | y :: ys => .cons (rd_str.mpr rfl) (rds_strs ys)
theorem split_ok (m : Bool) : MtR X "str.split" (Lm T fun d ds E q => bmR .split m E d ds q) := by
  refine MtR.by fun v vs H Q ⟨o, ds, E, q, he, ho, hd, h, post⟩ => ?_
  obtain ⟨d, rfl, h⟩ := one_inv (show one ds _ from h)
  obtain ⟨w, rfl, hw⟩ := rds_one hd
  obtain ⟨x, rfl, h⟩ := asS_inv h
  obtain ⟨c, rfl, h1, h2, h3, h⟩ := asS_inv h
  rw [rd_str] at ho hw; subst ho hw
  have e : Txt.split (toS x) (toS c) = (TL.spl c 0 [] x).map toS := by
    have := TL.split_spl (toS x) (toS c) (by show c ≠ []; intro z; subst z; cases h1) (TL.kind_ok (by show (c.toArray).all _ = true; rw [List.all_toArray]; exact h2))
    have e2 : (Txt.split (toS x) (toS c)).map TL.tl = ((TL.spl c 0 [] x).map toS).map TL.tl := by
      rw [this, List.map_map, show (TL.tl ∘ toS) = id from funext fun _ => rfl, List.map_id]; rfl
    exact TL.map_tl_inj e2
  refine ⟨_, MtR.fz mt_split, toS x, toS c, rfl, rfl, by rw [toS_len, h1]; rfl, by rw [toS_len, sizeLine_eq]; exact h3, ?_⟩
  rw [e]
  exact newL_go he (rds_strs _) h post
theorem endswith_eq {x y : List Nat} (hy : y ≠ []) : Txt.endswith (toS x) (toS y) = decide (y <:+ x) := by
  have hiff : Txt.endswith (toS x) (toS y) = true ↔ y <:+ x := by
    unfold Txt.endswith
    rw [Bool.and_eq_true, decide_eq_true_eq, toS_len, toS_len]
    constructor
    · rintro ⟨h1, h2⟩
      have := (TL.at_iff (x := toS x) (y := toS y) hy (x.length - y.length)).mp ⟨by rw [toS_len, toS_len]; omega, h2⟩
      have : (x.drop (x.length - y.length)).take y.length = y := by simpa [TL.pre, TL.tl, toS] using this
      rw [List.take_of_length_le (by rw [List.length_drop]; omega)] at this
      rw [← this]
      exact List.drop_suffix _ _
    · intro h
      have hl := h.length_le
      have e := (List.suffix_iff_eq_drop.mp h)
      have := (TL.at_iff (x := toS x) (y := toS y) hy (x.length - y.length)).mpr (by
        have e3 : (x.drop (x.length - y.length)).take y.length = y := by
          rw [← e, List.take_length]
        simpa [TL.pre, TL.tl, toS] using e3)
      exact ⟨by omega, this.2⟩
  cases h : Txt.endswith (toS x) (toS y) with
  | true => exact (decide_eq_true (hiff.mp h)).symm
  | false => exact (decide_eq_false fun z => by rw [hiff.mpr z] at h; cases h).symm
theorem ends_ok (m : Bool) : MtR X "str.endswith" (Lm T fun d ds E q => bmR .endswith m E d ds q) := by
  refine MtR.by fun v vs H Q ⟨o, ds, E, q, he, ho, hd, h, post⟩ => ?_
  obtain ⟨d, rfl, h⟩ := one_inv (show one ds _ from h)
  obtain ⟨w, rfl, hw⟩ := rds_one hd
  obtain ⟨x, rfl, h⟩ := asS_inv h
  obtain ⟨c, rfl, h1, h⟩ := asS_inv h
  rw [rd_str] at ho hw; subst ho hw
  exact ⟨_, mt_endswith, toS x, toS c, rfl, rfl, fin_same he (rd_bl.mpr (congrArg V.bl (endswith_eq h1))) h post⟩
end
end DL

set_option Elab.async false
set_option linter.all false
set_option maxRecDepth 100000
namespace DL
open PySem L2 PySem.Spec PyProof.Rows

/-! # what a def promises, where no guard stands -/
structure FnG (P : Program) (w : World) (K : PySem.W.Frag) (mg : Str → Option Value) (base : Heap) (k : Nat) (f : Addr) (fd : FuncData) (ps : List Str) (sp : Sp) : Prop where
  len : ∀ vs H Q E, sp vs H Q E → vs.length = ps.length
  run : ∀ (A : Around) (outer : List Env) (s : Shared) (H : Hp) (args : Args) (us : List Value) (vs : List V) (Q : VK) (E : XK), A.guards = some [] → Room k A → Env0 P w K mg base A outer s H → BindsTo s fd args (ps.zip us) → Vals vs us → sp vs H Q E →
    codeAny (model P w) A (.call (.ref f) args) (CR (L2.CX P w) outer P w H s Q E) s
theorem guards_deeper {A : Around} {env : Env} (h : A.guards = some []) : (A.deeper env).guards = some [] := by
  obtain ⟨hd, d, fr, gs, u⟩ := A
  simp [Around.deeper] at h ⊢
  exact h
theorem fnG_of {P : Program} {w : World} {K : PySem.W.Frag} {mg : Str → Option Value} {base : Heap} {k : Nat} {f : Addr} {x qual : Str} {params : Arguments} {body : List Stmt} {scope : Scope} {dvs : List V} {kws : List (Str × V)} {fd : FuncData}
    {N ps : List Str} {sp : Sp} (F : FunD K x qual params body scope dvs kws f fd) (S : FnScope N ps scope) (len : ∀ vs H Q E, sp vs H Q E → vs.length = ps.length)
    (hbody : ∀ (cdv : Value) (A : Around) (outer : List Env) (s : Shared) (H : Hp) (vs : List V) (Q : VK) (E : XK), A.guards = some [] → Room k (A.deeper (envOfC qual scope s.heap.objs.size f cdv)) → sp vs H Q E →
      ∃ t, PSs (cxOf (L2.CX P w) P w K mg base N qual scope f cdv A outer s H E) body t ∧ t { nx := fun _ H' => Q .non H', rt := Q } (start N vs) H) : FnG P w K mg base (k + 1) f fd ps sp := by
  obtain ⟨oc, od, dV, kV, doc, pm, an, cdv, ct, osl, rfl, lk, hcd, _, _⟩ := F.ex
  refine ⟨len, fun A outer s H args us vs Q E hgd hr e0 hb r hsp => ?_⟩
  have hl := len _ _ _ _ hsp
  have KX : K.In s.heap := e0.mod.kin.keeps fun b o e => (e0.bs b o e).1
  have lim : s.heap.NoLimit := e0.mod.nolimit.keeps fun b o e => (e0.bs b o e).1
  have hkind : ∀ y ∈ ps.zip us, scope.names.lookup y.1 = some .local ∨ (scope.names.lookup y.1 = some .cell ∧ ((cellsFrom (s.heap.objs.size + 1) scope.names []).lookup y.1).isSome = true) := fun ⟨n, v⟩ hy => by
    rcases S.par n (List.of_mem_zip hy).1 with q | q
    · exact .inl q
    · exact .inr ⟨q, PySem.W.cellsFrom_some _ _ _ (.inl q)⟩
  refine codeAny_call_function hr.depth (KX _ _ lk) rfl S.co S.gen rfl (PySem.W.codeRec_of KX hcd) (hb _ _ _ _ ?_)
  refine wpAny_newFunctionEnv_cells S.kind hkind fun env he s1 y => ?_
  subst he
  refine ⟨lim.keeps y.toInCall.keep, codeAny_func ?_⟩
  obtain ⟨t, ht, hq⟩ := hbody cdv A outer s H vs Q E hgd (hr.deeper _) hsp
  have I : Inv (cxOf (L2.CX P w) P w K mg base N qual scope f cdv A outer s H E) [] (start N vs) H s1 := inv_start S hr.hd e0 hl r y
  refine wpAny_mono (ht.run [] s1 (start N vs) H _ I hq) (fun fl s' hs => ?_) fun e s' hs => hs
  have fin : ∀ {σ' : L2.St} {H' : Hp} {v : V} {u : Value}, Inv (cxOf (L2.CX P w) P w K mg base N qual scope f cdv A outer s H E) [] σ' H' s' → RelV v u → Q v H' → CE outer P w H s Q u s' :=
    fun {σ' H' v u} J rv q => ⟨v, H', J.os, J.bare, J.base, J.hok, rv, q⟩
  cases fl with
  | ret u =>
    obtain ⟨v, σ', H', J, rv, q⟩ := hs
    exact fin J rv q
  | next =>
    obtain ⟨σ', H', J, q⟩ := hs
    exact fin (v := V.non) (u := Value.none) J rfl q
  | brk =>
    obtain ⟨_, _, _, q⟩ := hs
    exact False.elim q
  | cont =>
    obtain ⟨_, _, _, q⟩ := hs
    exact False.elim q
section
variable {X : Cx} {k : Nat} {f : Addr} {fd : FuncData} {ps : List Str} {sp : Sp} {E : L2.St → XK} {x : Str} {p pos : Pos} {e : Expr} {es : List Expr} {t : TA}
theorem run_fnG {pins : List (Addr × Obj)} {σ : L2.St} {H : Hp} {s : Shared} {Q : VK} {us : List Value} {vs : List V} (F : FnG X.prog X.w X.K X.mg X.base k f fd ps sp) (hgd : X.A.guards = some []) (hr : Room k X.A) (hb : Binds X.K fd ps []) (hx : PassesAt (L2.CX X.prog X.w) X σ (E σ))
    (I : Inv X pins σ H s) (r : Vals vs us) (h : sp vs H Q (E σ)) : wpAny (model X.prog X.w) X.A (call (.ref f) us) (EP X pins σ Q) X.xe s := by
  have hl : us.length = ps.length := by rw [← r.length]; exact F.len _ _ _ _ h
  have b := hb s us I.kIn (by rw [List.append_nil]; exact hl)
  rw [List.append_nil] at b
  refine wpAny_call (codeAny_mono (F.run X.A X.stack s H ⟨us, []⟩ us vs Q (E σ) hgd hr I.env0 b r h) fun r s' hq => ?_)
  cases r with
  | error e => exact hx pins H s e s' I hq
  | ok fl =>
    cases fl with
    | ret u => exact I.after hq
    | next => exact False.elim hq
    | brk => exact False.elim hq
    | cont => exact False.elim hq
theorem pe_callG (F : FnG X.prog X.w X.K X.mg X.base k f fd ps sp) (hgd : X.A.guards = some []) (hr : Room k X.A) (hg : Gl X x) (hm : X.mg x = some (.ref f)) (hk : PySem.W.keepIn X.K (.ref f) = true) (hb : Binds X.K fd ps []) (hx : ∀ σ, PassesAt (L2.CX X.prog X.w) X σ (E σ))
    (ha : PA X (e :: es) t) (hdb : (x == ("__debug__" : Str)) = false) (he : starEach (e :: es) X.env = (false, eval e X.env) :: starEach es X.env) (hpl : (backTo pos (starEach es X.env)).any (·.1) = false) :
    PE X (.Call (.Name x p) (e :: es) [] pos) (tCallS sp E t) := by
  refine ⟨fun pins s σ H Q I h => ?_⟩
  refine wpAny_Call_Name_kw (ld_glob I hg hm ?_ hdb)
  refine PySem.W.callWith_K (h₀ := X.base) I.ok.mod.kin hk (thn (ha.run pos pins s σ H _ I h) fun us s1 ⟨vs, H1, I1, r, q⟩ => ⟨I1.kIn, ?_⟩) he hpl
  exact run_fnG F hgd hr hb (hx σ) I1 r q
theorem pe_callG0 (F : FnG X.prog X.w X.K X.mg X.base k f fd ps sp) (hgd : X.A.guards = some []) (hr : Room k X.A) (hg : Gl X x) (hm : X.mg x = some (.ref f)) (hk : PySem.W.keepIn X.K (.ref f) = true) (hb : Binds X.K fd ps []) (hx : ∀ σ, PassesAt (L2.CX X.prog X.w) X σ (E σ))
    (hdb : (x == ("__debug__" : Str)) = false) : PE X (.Call (.Name x p) [] [] pos) (tCallS sp E tNil) := by
  refine ⟨fun pins s σ H Q I h => ?_⟩
  refine wpAny_Call_Name_kw (ld_glob I hg hm ?_ hdb)
  exact PySem.W.callWith_K0 I.kIn hk (run_fnG (us := []) F hgd hr hb (hx σ) I .nil h)
end
def spD (T : Tb) (C : List D → En → QE → (Nat → En → Prop) → Prop) : Sp := fun vs H Q Ex => ∃ ds E q x, RE T H E ∧ RDs T.K H ds vs ∧ C ds E q x ∧ (∀ d E' v H', Stp E H E' H' → RE T H' E' → RD T.K H' d v → q d E' → Q v H') ∧ (∀ c E' H', Stp E H E' H' → RE T H' E' → x c E' → Ex (.ref (T.cl c)) none H')

/-! # plain things -/
def plainE : Expr → Bool
  | .Starred .. => false
  | _ => true
theorem star_cons {e : Expr} {es : List Expr} {env : Env} (h : plainE e = true) : starEach (e :: es) env = (false, eval e env) :: starEach es env := by
  cases e <;> first | rfl | (exact absurd h Bool.false_ne_true)
theorem star_any {pos : Pos} {env : Env} : ∀ {es : List Expr}, es.all plainE = true → (backTo pos (starEach es env)).any (·.1) = false
  | [], _ => rfl
  | e :: es, h => by
    rw [List.all_cons, Bool.and_eq_true] at h
    rw [star_cons h.1]
    have ih := star_any (pos := pos) (env := env) h.2
    simp only [backTo, List.map_cons, List.any_cons, Bool.false_or] at ih ⊢
    exact ih
theorem star_all {pos : Pos} {env : Env} : ∀ {es : List Expr}, es.all plainE = true → (backTo pos (starEach es env)).all (fun x => !x.1) = true
  | [], _ => rfl
  | e :: es, h => by
    rw [List.all_cons, Bool.and_eq_true] at h
    rw [star_cons h.1]
    have ih := star_all (pos := pos) (env := env) h.2
    simp only [backTo, List.map_cons, List.all_cons] at ih ⊢
    rw [ih]; rfl
def baseP : Expr → Bool
  | .Call (.Name x _) [] [] _ => x != "super"
  | _ => true
theorem base_plain {o : Expr} {a : Str} {env : Env} (h : baseP o = true) : attributeBase o a env (eval o env) = eval o env := by
  unfold attributeBase
  split
  · rename_i id _ pos
    have h' : (id != "super") = true := h
    simp [h']
  · rfl
def plainIx : Expr → Bool
  | .Slice .. => false
  | _ => true
theorem ix_plain {e : Expr} (h : plainIx e = true) : PlainIx e := by
  intro o i
  cases e <;> first | rfl | (exact absurd h Bool.false_ne_true)
def plainT : Expr → Bool
  | .UnaryOp .Not _ _ => false
  | .BoolOp .. => false
  | .IfExp .. => false
  | .Compare .. => false
  | _ => true
theorem test_plain {e : Expr} {env : Env} (h : plainT e = true) : ∀ whole, isTrue e env whole = (do let v ← whole; standAt e.pos; holding [v] (truthy v)) := by
  intro whole
  cases e with
  | UnaryOp op a p => cases op <;> first | rfl | (exact absurd h Bool.false_ne_true)
  | BoolOp => exact absurd h Bool.false_ne_true
  | IfExp => exact absurd h Bool.false_ne_true
  | Compare => exact absurd h Bool.false_ne_true
  | _ => rfl
def noSet : Expr → Bool
  | .Set .. => false
  | _ => true
theorem marks_no {op : CmpOp} {e : Expr} (h : noSet e = true) : behindInMarks op e = false := by
  cases e <;> first | rfl | (exact absurd h Bool.false_ne_true)
theorem fold_no {e : Expr} {env : Env} (h : noSet e = true) : ∀ x, foldedSetIterable e env x = pure x := by
  intro x
  cases e <;> first | rfl | (exact absurd h Bool.false_ne_true)
def noComp : Expr → Bool
  | .ListComp .. => false
  | .SetComp .. => false
  | .DictComp .. => false
  | _ => true
theorem swap_no {e : Expr} {t : Option Expr} {l : Nat} {env : Env} (h : noComp e = true) : swapsWith e t l env = pure false := by
  cases e <;> first | rfl | (exact absurd h Bool.false_ne_true)
end DL

set_option Elab.async false
set_option linter.all false
set_option maxRecDepth 100000
namespace DL
open PySem L2 PySem.Spec PyProof.Rows

section
variable {X : Cx} {T : Tb} {W : WX} {a b c e o : Expr} {es : List Expr} {ta tb tc to : TD} {t tA : TAD} {tt : TTD} {pos apos p2 : Pos}
theorem LE.go {td : TD} {σ : L2.St} {H : Hp} {Q : VK} {s : SD} {E : En} {q : QE} {x : XP} (hs : RS T H s σ) (he : RE T H E) (h : td s E q x) (hx : XOk T W E H x)
    (post : ∀ d E' v H', Stp E H E' H' → RE T H' E' → RD T.K H' d v → q d E' → Q v H') : LE T W td σ H Q := ⟨s, E, q, x, hs, he, h, post, hx⟩
/-- a plain value -/
theorem de_con {v : V} {d : D} (h : PE X e (tC v)) (hd : ∀ H, RD T.K H d v) : DE X T W e (fun s E q x => q d E) :=
  PE.imp h fun σ H Q ⟨s, E, q, x, hs, he, h, post, hx⟩ => post d E v H (.refl _ _) he (hd H) h
theorem getv_inv : ∀ {s : SD} {i : Nat} {k : D → Prop}, getv s i k → ∃ d, s[i]? = some (some d) ∧ k d
  | [], _, _, h => h.elim
  | some d :: _, 0, _, h => ⟨d, rfl, h⟩
  | none :: _, 0, _, h => h.elim
  | some _ :: s, n + 1, _, h => getv_inv (s := s) h
  | none :: s, n + 1, _, h => getv_inv (s := s) h
theorem de_var {i : Nat} (h : PE X e (tVar i)) : DE X T W e (fun s E q x => getv s i fun d => q d E) :=
  PE.imp h fun σ H Q ⟨s, E, q, x, hs, he, h, post, hx⟩ => by
    obtain ⟨d, e1, h⟩ := getv_inv h
    obtain ⟨v, e2, hv⟩ := hs.2 i d e1
    exact ⟨v, e2, post d E v H (.refl _ _) he hv h⟩
/-- two values, an operation on them -/
theorem de_op {f : Value → Value → Sem Value} {R : D → D → En → QE → Prop} (h : PE X e (tOp (Lo T R) (LE T W ta) (LE T W tb))) : DE X T W e (fun s E q x => ta s E (fun d E1 => tb s E1 (fun d2 E2 => R d d2 E2 q) x) x) :=
  PE.imp h fun σ H Q ⟨s, E, q, x, hs, he, h, post, hx⟩ => LE.go hs he h hx fun d E1 v H1 s1 he1 hd1 h1 => LE.go (hs.grow s1.g) he1 h1 (hx.step s1) fun d2 E2 w H2 s2 he2 hd2 h2 =>
    ⟨d, d2, E2, q, he2, hd1.grow s2.g, hd2, h2, fun d E3 z H3 s3 he3 hd3 h3 => post d E3 z H3 ((s1.trans s2).trans s3) he3 hd3 h3⟩
theorem de_bin {op : Operator} {R : D → D → En → QE → Prop} (ho : OpR X (binaryOp op) (Lo T R)) (ha : DE X T W a ta) (hb : DE X T W b tb) : DE X T W (.BinOp a op b pos) (fun s E q x => ta s E (fun d E1 => tb s E1 (fun d2 E2 => R d d2 E2 q) x) x) :=
  de_op (f := binaryOp op) (pe_op ho ha hb)
theorem de_cmp {op : CmpOp} {R : D → D → En → QE → Prop} (ho : OpR X (compareOp op) (Lo T R)) (ha : DE X T W a ta) (hb : DE X T W b tb) (hn : noSet b = true) : DE X T W (.Compare a [op] [b] pos) (fun s E q x => ta s E (fun d E1 => tb s E1 (fun d2 E2 => R d d2 E2 q) x) x) :=
  de_op (f := compareOp op) (pe_cmpR ho ha hb (marks_no hn))
theorem de_ix (hK : X.K = T.K) (ha : DE X T W a ta) (hb : DE X T W b tb) (hn : plainIx b = true) : DE X T W (.Subscript a b pos) (fun s E q x => ta s E (fun d E1 => tb s E1 (fun d2 E2 => ixR E2 d d2 q) x) x) :=
  de_op (f := fun _ _ => pure .none) (pe_ix (ix_ok hK) ha hb (ix_plain hn))
theorem de_chn {op op' : CmpOp} {R R' : D → D → En → (Bool → Prop) → Prop} (ho : OpR X (compareOp op) (Lo T fun x y E q => R x y E fun k => q (.bl k) E)) (ho' : OpR X (compareOp op') (Lo T fun x y E q => R' x y E fun k => q (.bl k) E))
    (ha : DE X T W a ta) (hb : DE X T W b tb) (hc : DE X T W c tc) (hn : noSet c = true) :
    DE X T W (.Compare a [op, op'] [b, c] pos) (fun s E q x => ta s E (fun d E1 => tb s E1 (fun d2 E2 => R d d2 E2 fun k => if k = true then tc s E2 (fun d3 E3 => R' d2 d3 E3 fun k => q (.bl k) E3) x else q (.bl false) E2) x) x) := by
  refine PE.imp (pe_chain ho ho' ha hb hc (by show behindInMarks op' c = false; exact marks_no hn)) fun σ H Q ⟨s, E, q, x, hs, he, h, post, hx⟩ => LE.go hs he h hx fun d E1 v H1 s1 he1 hd1 h1 => LE.go (hs.grow s1.g) he1 h1 (hx.step s1) fun d2 E2 w H2 s2 he2 hd2 h2 => ?_
  refine ⟨d, d2, E2, fun r E3 => ∃ k, r = .bl k ∧ E3 = E2 ∧ (if k = true then tc s E2 (fun d3 E3 => R' d2 d3 E3 fun k => q (.bl k) E3) x else q (.bl false) E2), he2, hd1.grow s2.g, hd2, ?_, ?_⟩
  · have key : ∀ {K K' : Bool → Prop}, (∀ k, K k → K' k) → K = K' → True := fun _ _ => trivial
    have e : (fun k => ∃ k', (D.bl k) = .bl k' ∧ E2 = E2 ∧ (if k' = true then tc s E2 (fun d3 E3 => R' d2 d3 E3 fun k => q (.bl k) E3) x else q (.bl false) E2)) = fun k => (if k = true then tc s E2 (fun d3 E3 => R' d2 d3 E3 fun k => q (.bl k) E3) x else q (.bl false) E2) := by
      funext k
      refine propext ⟨fun ⟨k', e, _, z⟩ => ?_, fun z => ⟨k, rfl, rfl, z⟩⟩
      cases e
      exact z
    show R d d2 E2 (fun k => ∃ k', (D.bl k) = .bl k' ∧ E2 = E2 ∧ (if k' = true then tc s E2 (fun d3 E3 => R' d2 d3 E3 fun k => q (.bl k) E3) x else q (.bl false) E2))
    rw [e]
    exact h2
  · rintro r E3 z H3 s3 he3 hd3 ⟨k, rfl, rfl, h3⟩
    rw [rd_bl] at hd3
    refine ⟨k, hd3, ?_⟩
    have s13 := (s1.trans s2).trans s3
    cases k with
    | true =>
      rw [if_pos rfl] at h3 ⊢
      exact LE.go (hs.grow s13.g) he3 h3 (hx.step s13) fun d3 E4 u H4 s4 he4 hd4 h4 => ⟨d2, d3, E4, q, he4, (hd2.grow s3.g).grow s4.g, hd4, h4, fun d E5 z H5 s5 he5 hd5 h5 => post d E5 z H5 ((s13.trans s4).trans s5) he5 hd5 h5⟩
    | false =>
      rw [if_neg Bool.false_ne_true] at h3 ⊢
      exact post _ _ _ _ s13 he3 (rd_bl.mpr rfl) h3
theorem de_neg (ha : DE X T W a ta) : DE X T W (.UnaryOp .USub a pos) (fun s E q x => ta s E (fun d E1 => asI d fun i => q (.int (-i)) E1) x) :=
  PE.imp (pe_un un_neg ha) fun σ H Q ⟨s, E, q, x, hs, he, h, post, hx⟩ => LE.go hs he h hx fun d E1 v H1 s1 he1 hd1 h1 => by
    obtain ⟨i, ee, hh⟩ := asI_inv h1; subst ee; have h1 := hh
    rw [rd_int] at hd1
    exact ⟨i, hd1, post _ _ _ _ s1 he1 (rd_int.mpr rfl) h1⟩
theorem de_not (ha : DE X T W a ta) : DE X T W (.UnaryOp .Not a pos) (fun s E q x => ta s E (fun d E1 => asB d fun k => q (.bl (!k)) E1) x) :=
  PE.imp (pe_not ha) fun σ H Q ⟨s, E, q, x, hs, he, h, post, hx⟩ => LE.go hs he h hx fun d E1 v H1 s1 he1 hd1 h1 => by
    obtain ⟨i, ee, hh⟩ := asB_inv h1; subst ee; have h1 := hh
    rw [rd_bl] at hd1
    exact ⟨i, hd1, post _ _ _ _ s1 he1 (rd_bl.mpr rfl) h1⟩
theorem de_and (h : PE X e (tAndV (LE T W ta) (LE T W tb))) : DE X T W e (fun s E q x => ta s E (fun d E1 => asB d fun k => if k = true then tb s E1 q x else q (.bl false) E1) x) :=
  PE.imp h fun σ H Q ⟨s, E, q, x, hs, he, h, post, hx⟩ => LE.go hs he h hx fun d E1 v H1 s1 he1 hd1 h1 => by
    obtain ⟨k, ee, hh⟩ := asB_inv h1; subst ee; have h1 := hh
    rw [rd_bl] at hd1
    refine ⟨k, hd1, ?_⟩
    cases k with
    | true => rw [if_pos rfl] at h1 ⊢; exact LE.go (hs.grow s1.g) he1 h1 (hx.step s1) fun d E2 w H2 s2 he2 hd2 h2 => post _ _ _ _ (s1.trans s2) he2 hd2 h2
    | false => rw [if_neg Bool.false_ne_true] at h1 ⊢; exact post _ _ _ _ s1 he1 (rd_bl.mpr rfl) h1
theorem de_or (h : PE X e (tOrV (LE T W ta) (LE T W tb))) : DE X T W e (fun s E q x => ta s E (fun d E1 => asB d fun k => if k = true then q (.bl true) E1 else tb s E1 q x) x) :=
  PE.imp h fun σ H Q ⟨s, E, q, x, hs, he, h, post, hx⟩ => LE.go hs he h hx fun d E1 v H1 s1 he1 hd1 h1 => by
    obtain ⟨k, ee, hh⟩ := asB_inv h1; subst ee; have h1 := hh
    rw [rd_bl] at hd1
    refine ⟨k, hd1, ?_⟩
    cases k with
    | false => rw [if_neg Bool.false_ne_true] at h1 ⊢; exact LE.go (hs.grow s1.g) he1 h1 (hx.step s1) fun d E2 w H2 s2 he2 hd2 h2 => post _ _ _ _ (s1.trans s2) he2 hd2 h2
    | true => rw [if_pos rfl] at h1 ⊢; exact post _ _ _ _ s1 he1 (rd_bl.mpr rfl) h1
/-! tests -/
theorem LT.go {td : TTD} {σ : L2.St} {H : Hp} {Q : Bool → Hp → Prop} {s : SD} {E : En} {q : Bool → En → Prop} {x : XP} (hs : RS T H s σ) (he : RE T H E) (h : td s E q x) (hx : XOk T W E H x)
    (post : ∀ d E' H', Stp E H E' H' → RE T H' E' → q d E' → Q d H') : LT T W td σ H Q := ⟨s, E, q, x, hs, he, h, post, hx⟩
variable {tc1 tc2 : TTD}
theorem de_ite (hc : DT X T W c tc1) (ha : DE X T W a ta) (hb : DE X T W b tb) : DE X T W (.IfExp c a b pos) (fun s E q x => tc1 s E (fun k E1 => if k = true then ta s E1 q x else tb s E1 q x) x) :=
  PE.imp (pe_ifExp hc ha hb) fun σ H Q ⟨s, E, q, x, hs, he, h, post, hx⟩ => LT.go hs he h hx fun k E1 H1 s1 he1 h1 => by
    cases k with
    | true => rw [if_pos rfl] at h1 ⊢; exact LE.go (hs.grow s1.g) he1 h1 (hx.step s1) fun d E2 w H2 s2 he2 hd2 h2 => post _ _ _ _ (s1.trans s2) he2 hd2 h2
    | false => rw [if_neg Bool.false_ne_true] at h1 ⊢; exact LE.go (hs.grow s1.g) he1 h1 (hx.step s1) fun d E2 w H2 s2 he2 hd2 h2 => post _ _ _ _ (s1.trans s2) he2 hd2 h2
theorem dt_val (hK : X.K = T.K) (ha : DE X T W a ta) (hp : plainT a = true) : DT X T W a (fun s E q x => ta s E (fun d E1 => truR E1 d fun k => q k E1) x) :=
  PT.imp (pt_truth ha (test_plain hp)) fun σ H Q ⟨s, E, q, x, hs, he, h, post, hx⟩ => LE.go hs he h hx fun d E1 v H1 s1 he1 hd1 h1 => by
    obtain ⟨k, h2, h3⟩ := tru_go (X := X) hK (Q := fun b H' => H' = H1 ∧ q b E1) he1 hd1 h1 fun b hb => ⟨rfl, hb⟩
    exact ⟨k, h2, post k E1 H1 s1 he1 h3.2⟩
theorem dt_cmp {op : CmpOp} {R : D → D → En → (Bool → Prop) → Prop} (h : PT X e (tTest (LE T W ta))) : DT X T W e (fun s E q x => ta s E (fun d E1 => asB d fun k => q k E1) x) :=
  PT.imp h fun σ H Q ⟨s, E, q, x, hs, he, h, post, hx⟩ => LE.go hs he h hx fun d E1 v H1 s1 he1 hd1 h1 => by
    obtain ⟨k, ee, hh⟩ := asB_inv h1; subst ee; have h1 := hh
    rw [rd_bl] at hd1
    exact ⟨k, hd1, post k E1 H1 s1 he1 h1⟩
theorem blx {f : Bool → Prop} : (fun k => ∃ k', D.bl k = .bl k' ∧ f k') = f := by
  funext k
  exact propext ⟨fun ⟨k', e, z⟩ => by cases e; exact z, fun z => ⟨k, rfl, z⟩⟩
theorem dt_cmp1 {op : CmpOp} {R : D → D → En → (Bool → Prop) → Prop} (ho : OpR X (compareOp op) (Lo T fun x y E q => R x y E fun k => q (.bl k) E)) (ha : DE X T W a ta) (hb : DE X T W b tb) (hn : noSet b = true) :
    DT X T W (.Compare a [op] [b] pos) (fun s E q x => ta s E (fun d E1 => tb s E1 (fun d2 E2 => R d d2 E2 fun k => q k E2) x) x) :=
  PT.imp (pt_cmpR ho ha hb (marks_no hn)) fun σ H Q ⟨s, E, q, x, hs, he, h, post, hx⟩ => LE.go hs he h hx fun d E1 v H1 s1 he1 hd1 h1 => LE.go (hs.grow s1.g) he1 h1 (hx.step s1) fun d2 E2 w H2 s2 he2 hd2 h2 =>
    ⟨d, d2, E2, fun r E3 => ∃ k, r = .bl k ∧ q k E3, he2, hd1.grow s2.g, hd2, by
      show R d d2 E2 (fun k => ∃ k', D.bl k = .bl k' ∧ q k' E2)
      rw [blx]; exact h2, fun r E3 z H3 s3 he3 hd3 h3 => by
      obtain ⟨k, e, h3⟩ := h3
      subst e
      rw [rd_bl] at hd3
      exact ⟨k, hd3, post k E3 H3 ((s1.trans s2).trans s3) he3 h3⟩⟩
theorem dt_chn1 {op op' : CmpOp} {R R' : D → D → En → (Bool → Prop) → Prop} (ho : OpR X (compareOp op) (Lo T fun x y E q => R x y E fun k => q (.bl k) E)) (ho' : OpR X (compareOp op') (Lo T fun x y E q => R' x y E fun k => q (.bl k) E))
    (ha : DE X T W a ta) (hb : DE X T W b tb) (hc : DE X T W c tc) (hn : noSet c = true) :
    DT X T W (.Compare a [op, op'] [b, c] pos) (fun s E q x => ta s E (fun d E1 => tb s E1 (fun d2 E2 => R d d2 E2 fun k => if k = true then tc s E2 (fun d3 E3 => R' d2 d3 E3 fun k => q k E3) x else q false E2) x) x) := by
  refine PT.imp (pt_chain ho ho' ha hb hc (by show behindInMarks op' c = false; exact marks_no hn)) fun σ H Q ⟨s, E, q, x, hs, he, h, post, hx⟩ => LE.go hs he h hx fun d E1 v H1 s1 he1 hd1 h1 => LE.go (hs.grow s1.g) he1 h1 (hx.step s1) fun d2 E2 w H2 s2 he2 hd2 h2 => ?_
  refine ⟨d, d2, E2, fun r E3 => ∃ k, r = .bl k ∧ E3 = E2 ∧ (if k = true then tc s E2 (fun d3 E3 => R' d2 d3 E3 fun k => q k E3) x else q false E2), he2, hd1.grow s2.g, hd2, ?_, ?_⟩
  · show R d d2 E2 (fun k => ∃ k', (D.bl k) = .bl k' ∧ E2 = E2 ∧ (if k' = true then tc s E2 (fun d3 E3 => R' d2 d3 E3 fun k => q k E3) x else q false E2))
    have e : (fun k => ∃ k', (D.bl k) = .bl k' ∧ E2 = E2 ∧ (if k' = true then tc s E2 (fun d3 E3 => R' d2 d3 E3 fun k => q k E3) x else q false E2)) = fun k => (if k = true then tc s E2 (fun d3 E3 => R' d2 d3 E3 fun k => q k E3) x else q false E2) := by
      funext k
      refine propext ⟨fun ⟨k', e, _, z⟩ => ?_, fun z => ⟨k, rfl, rfl, z⟩⟩
      cases e
      exact z
    rw [e]
    exact h2
  · rintro r E3 z H3 s3 he3 hd3 ⟨k, rfl, rfl, h3⟩
    rw [rd_bl] at hd3
    refine ⟨k, hd3, ?_⟩
    have s13 := (s1.trans s2).trans s3
    cases k with
    | true =>
      rw [if_pos rfl] at h3 ⊢
      refine LE.go (hs.grow s13.g) he3 h3 (hx.step s13) fun d3 E4 u H4 s4 he4 hd4 h4 => ⟨d2, d3, E4, fun r E5 => ∃ k, r = .bl k ∧ q k E5, he4, (hd2.grow s3.g).grow s4.g, hd4, ?_, ?_⟩
      · show R' d2 d3 E4 (fun k => ∃ k', D.bl k = .bl k' ∧ q k' E4)
        rw [blx]; exact h4
      · rintro r E5 z H5 s5 he5 hd5 ⟨k, rfl, h5⟩
        rw [rd_bl] at hd5
        exact ⟨k, hd5, post k E5 H5 ((s13.trans s4).trans s5) he5 h5⟩
    | false =>
      rw [if_neg Bool.false_ne_true] at h3 ⊢
      exact ⟨false, rfl, post _ _ _ s13 he3 h3⟩
theorem dt_not (ha : DT X T W a tc1) : DT X T W (.UnaryOp .Not a pos) (fun s E q x => tc1 s E (fun k E1 => q (!k) E1) x) :=
  PT.imp (pt_not ha) fun σ H Q ⟨s, E, q, x, hs, he, h, post, hx⟩ => LT.go hs he h hx fun k E1 H1 s1 he1 h1 => post _ _ _ s1 he1 h1
theorem PW.imp {X : Cx} {e : Expr} {t t' : TT} (h : PW X e t) (i : ∀ σ H Q, t' σ H Q → t σ H Q) : PW X e t' := ⟨fun wh pins s σ H Q I q => h.run wh pins s σ H Q I (i _ _ _ q)⟩
theorem dt_and (h : PW X e (tAnd (LT T W tc1) (LT T W tc2))) : PW X e (LT T W (fun s E q x => tc1 s E (fun k E1 => if k = true then tc2 s E1 q x else q false E1) x)) :=
  PW.imp h fun σ H Q ⟨s, E, q, x, hs, he, h, post, hx⟩ => LT.go hs he h hx fun k E1 H1 s1 he1 h1 => by
    cases k with
    | true => rw [if_pos rfl] at h1 ⊢; exact LT.go (hs.grow s1.g) he1 h1 (hx.step s1) fun d E2 H2 s2 he2 h2 => post _ _ _ (s1.trans s2) he2 h2
    | false => rw [if_neg Bool.false_ne_true] at h1 ⊢; exact post _ _ _ s1 he1 h1
theorem dt_or (h : PW X e (tOr (LT T W tc1) (LT T W tc2))) : PW X e (LT T W (fun s E q x => tc1 s E (fun k E1 => if k = true then q true E1 else tc2 s E1 q x) x)) :=
  PW.imp h fun σ H Q ⟨s, E, q, x, hs, he, h, post, hx⟩ => LT.go hs he h hx fun k E1 H1 s1 he1 h1 => by
    cases k with
    | false => rw [if_neg Bool.false_ne_true] at h1 ⊢; exact LT.go (hs.grow s1.g) he1 h1 (hx.step s1) fun d E2 H2 s2 he2 h2 => post _ _ _ (s1.trans s2) he2 h2
    | true => rw [if_pos rfl] at h1 ⊢; exact post _ _ _ s1 he1 h1
/-! argument lists -/
theorem LA.go {td : TAD} {σ : L2.St} {H : Hp} {Q : List V → Hp → Prop} {s : SD} {E : En} {q : List D → En → Prop} {x : XP} (hs : RS T H s σ) (he : RE T H E) (h : td s E q x) (hx : XOk T W E H x)
    (post : ∀ ds E' vs H', Stp E H E' H' → RE T H' E' → RDs T.K H' ds vs → q ds E' → Q vs H') : LA T W td σ H Q := ⟨s, E, q, x, hs, he, h, post, hx⟩
theorem da_nil : DA X T W [] (fun s E q x => q [] E) := PA.imp pa_nil fun σ H Q ⟨s, E, q, x, hs, he, h, post, hx⟩ => post [] E [] H (.refl _ _) he .nil h
theorem da_cons (ha : DE X T W a ta) (hr : DA X T W es t) (hp : plainE a = true) : DA X T W (a :: es) (fun s E q x => ta s E (fun d E1 => t s E1 (fun ds E2 => q (d :: ds) E2) x) x) :=
  PA.imp (pa_cons ha hr (star_cons hp)) fun σ H Q ⟨s, E, q, x, hs, he, h, post, hx⟩ => LE.go hs he h hx fun d E1 v H1 s1 he1 hd1 h1 => LA.go (hs.grow s1.g) he1 h1 (hx.step s1) fun ds E2 vs H2 s2 he2 hd2 h2 =>
    post _ _ _ _ (s1.trans s2) he2 (.cons (hd1.grow s2.g) hd2) h2
theorem de_tup (h : DA X T W es t) {k} : DE X T W (.Tuple es k pos) (fun s E q x => t s E (fun ds E1 => ds.length ≤ 16777216 ∧ q (.tup ds) E1) x) :=
  PE.imp (pe_tup h) fun σ H Q ⟨s, E, q, x, hs, he, h, post, hx⟩ => LA.go hs he h hx fun ds E1 vs H1 s1 he1 hd1 h1 =>
    ⟨by rw [hd1.length, sizeLine_eq]; exact h1.1, fun p hp => post (.tup ds) E1 _ _ (s1.trans (.new hp)) (he1.new hp) (by unfold RD; exact ⟨p, vs, rfl, .inl (.inl upd_same), hd1.grow (.new hp)⟩) h1.2⟩
theorem de_lst (m : Bool) (h : DA X T W es t) : DE X T W (.List es pos) (fun s E q x => t s E (fun ds E1 => newL m ds E1 q) x) :=
  PE.imp (PE.fz (pe_lst h)) fun σ H Q ⟨s, E, q, x, hs, he, h, post, hx⟩ => LA.go hs he h hx fun ds E1 vs H1 s1 he1 hd1 h1 =>
    ⟨by rw [hd1.length]; exact newL_len h1, newL_go he1 hd1 h1 fun d E2 v H2 s2 => post d E2 v H2 (s1.trans s2)⟩
/-- a call of a builtin -/
theorem de_cb {R : List D → En → QE → Prop} (h : PE X e (tCB (L1 T R) (LA T W t))) : DE X T W e (fun s E q x => t s E (fun ds E1 => R ds E1 q) x) :=
  PE.imp h fun σ H Q ⟨s, E, q, x, hs, he, h, post, hx⟩ => LA.go hs he h hx fun ds E1 vs H1 s1 he1 hd1 h1 =>
    ⟨ds, E1, q, he1, hd1, h1, fun d E2 v H2 s2 => post d E2 v H2 (s1.trans s2)⟩
theorem de_isi {ty : Ty} (h : PE X e (tCB (fun vs H Q => ∃ v, vs = [v, .ty (tyN ty)] ∧ rTy T ty v H Q) (tCons (LE T W ta) (tCons (tC (.ty (tyN ty))) tNil)))) : DE X T W e (fun s E q x => ta s E (fun d E1 => tyR E1 d ty fun k => q (.bl k) E1) x) :=
  PE.imp h fun σ H Q ⟨s, E, q, x, hs, he, h, post, hx⟩ => LE.go hs he h hx fun d E1 v H1 s1 he1 hd1 h1 =>
    ⟨v, rfl, d, E1, q, he1, hd1, h1, fun d E2 w H2 s2 => post d E2 w H2 (s1.trans s2)⟩
/-- a call of a def -/
theorem de_fn {C : List D → En → QE → (Nat → En → Prop) → Prop} (h : PE X e (tCallS (spD T C) (WE W) (LA T W t))) : DE X T W e (fun s E q x => t s E (fun ds E1 => C ds E1 q fun c E2 => x c s E2) x) :=
  PE.imp h fun σ H Q ⟨s, E, q, x, hs, he, h, post, hx⟩ => LA.go hs he h hx fun ds E1 vs H1 s1 he1 hd1 h1 =>
    ⟨ds, E1, q, _, he1, hd1, h1, fun d E2 v H2 s2 => post d E2 v H2 (s1.trans s2), fun c E2 H2 s2 he2 h2 => hx c s E2 σ H2 (s1.trans s2) (hs.grow (s1.trans s2).g) he2 h2⟩
/-- a method of a built-in type -/
theorem bmT_ok (hK : X.K = T.K) {bm : Bm} {E : En} {H : Hp} {d : D} {v : V} {p : Prop} (he : RE T H E) (hd : RD T.K H d v) (h : bmT bm E d p) : p ∧ ((bm = .join ∨ bm = .split ∨ bm = .endswith ∨ bm = .strip) → tyV X.K "str" v H) ∧ ((bm ≠ .join ∧ bm ≠ .split ∧ bm ≠ .endswith ∧ bm ≠ .strip) → tyV X.K "list" v H) := by
  have str : asS d (fun _ => p) → p ∧ tyV X.K "str" v H := fun h => by
    obtain ⟨x, rfl, hp⟩ := asS_inv h
    rw [rd_str] at hd; subst hd
    exact ⟨hp, rfl⟩
  have lst : asL E d (fun _ => p) → p ∧ tyV X.K "list" v H := fun h => by
    obtain ⟨xs, e, hp⟩ := asL_inv h
    obtain ⟨a, vs, rfl, hs, hr⟩ := lv_ok he hd e
    exact ⟨hp, .inl ⟨rfl, vs, hs.sq hK⟩⟩
  have S : (bm = .join ∨ bm = .split ∨ bm = .endswith ∨ bm = .strip) → asS d (fun _ => p) := fun z => by rcases z with rfl | rfl | rfl | rfl <;> exact h
  have L : (bm ≠ .join ∧ bm ≠ .split ∧ bm ≠ .endswith ∧ bm ≠ .strip) → asL E d (fun _ => p) := fun z => by
    cases bm <;> first | exact h | exact (z.1 rfl).elim | exact (z.2.1 rfl).elim | exact (z.2.2.1 rfl).elim | exact (z.2.2.2 rfl).elim
  refine ⟨?_, fun z => (str (S z)).2, fun z => (lst (L z)).2⟩
  by_cases z : bm = .join ∨ bm = .split ∨ bm = .endswith ∨ bm = .strip
  · exact (str (S z)).1
  · simp only [not_or] at z
    exact (lst (L z)).1
theorem de_bm {bm : Bm} {m : Bool} {N : String} (hN : ∀ {E : En} {H : Hp} {d : D} {v : V} {p : Prop}, RE T H E → RD T.K H d v → bmT bm E d p → p ∧ tyV X.K N v H)
    (h : PE X e (tBM X.K N (Lm T fun d ds E q => bmR bm m E d ds q) (LE T W to) (LA T W t))) : DE X T W e (fun s E q x => to s E (fun d E1 => bmT bm E1 d (t s E1 (fun ds E2 => bmR bm m E2 d ds q) x)) x) :=
  PE.imp h fun σ H Q ⟨s, E, q, x, hs, he, h, post, hx⟩ => LE.go hs he h hx fun d E1 v H1 s1 he1 hd1 h1 => by
    obtain ⟨h1, hy⟩ := hN he1 hd1 h1
    exact ⟨hy, LA.go (hs.grow s1.g) he1 h1 (hx.step s1) fun ds E2 vs H2 s2 he2 hd2 h2 => ⟨d, ds, E2, q, he2, hd1.grow s2.g, hd2, h2, fun d E3 z H3 s3 => post d E3 z H3 ((s1.trans s2).trans s3)⟩⟩
theorem de_bm0 {bm : Bm} {m : Bool} {N : String} (hN : ∀ {E : En} {H : Hp} {d : D} {v : V} {p : Prop}, RE T H E → RD T.K H d v → bmT bm E d p → p ∧ tyV X.K N v H)
    (h : PE X e (tBM0 X.K N (Lm T fun d ds E q => bmR bm m E d ds q) (LE T W to))) : DE X T W e (fun s E q x => to s E (fun d E1 => bmT bm E1 d (bmR bm m E1 d [] q)) x) :=
  PE.imp h fun σ H Q ⟨s, E, q, x, hs, he, h, post, hx⟩ => LE.go hs he h hx fun d E1 v H1 s1 he1 hd1 h1 => by
    obtain ⟨h1, hy⟩ := hN he1 hd1 h1
    exact ⟨hy, d, [], E1, q, he1, hd1, .nil, h1, fun d E3 z H3 s3 => post d E3 z H3 (s1.trans s3)⟩
/-- a slice's end -/
abbrev TOD := SD → En → (Option Int → En → Prop) → XP → Prop
def LO (T : Tb) (W : WX) (t : TOD) : TO := fun σ H Q => ∃ s E q x, RS T H s σ ∧ RE T H E ∧ t s E q x ∧ (∀ o E' H', Stp E H E' H' → RE T H' E' → q o E' → Q o H') ∧ XOk T W E H x
theorem PO.imp {X : Cx} {e : Option Expr} {t t' : TO} (h : PO X e t) (i : ∀ σ H Q, t' σ H Q → t σ H Q) : PO X e t' := ⟨fun pins s σ H Q I q => h.run pins s σ H Q I (i _ _ _ q)⟩
theorem do_none : PO X none (LO T W fun s E q x => q none E) := PO.imp po_none fun σ H Q ⟨s, E, q, x, hs, he, h, post, hx⟩ => post none E H (.refl _ _) he h
theorem do_some (ha : DE X T W a ta) : PO X (some a) (LO T W fun s E q x => ta s E (fun d E1 => asI d fun i => q (some i) E1) x) :=
  PO.imp (po_some ha) fun σ H Q ⟨s, E, q, x, hs, he, h, post, hx⟩ => LE.go hs he h hx fun d E1 v H1 s1 he1 hd1 h1 => by
    obtain ⟨i, ee, hh⟩ := asI_inv h1; subst ee; have h1 := hh
    rw [rd_int] at hd1
    exact ⟨i, hd1, post _ _ _ s1 he1 h1⟩
theorem LO.go {td : TOD} {σ : L2.St} {H : Hp} {Q : Option Int → Hp → Prop} {s : SD} {E : En} {q : Option Int → En → Prop} {x : XP} (hs : RS T H s σ) (he : RE T H E) (h : td s E q x) (hx : XOk T W E H x)
    (post : ∀ d E' H', Stp E H E' H' → RE T H' E' → q d E' → Q d H') : LO T W td σ H Q := ⟨s, E, q, x, hs, he, h, post, hx⟩
theorem de_sl (hK : X.K = T.K) (m : Bool) {lo hi : Option Expr} {tl th : TOD} (ha : DE X T W a ta) (hl : PO X lo (LO T W tl)) (hh : PO X hi (LO T W th)) :
    DE X T W (.Subscript a (.Slice lo hi none p2) pos) (fun s E q x => ta s E (fun d E1 => tl s E1 (fun l E2 => th s E2 (fun h E3 => slR m E3 d l h q) x) x) x) :=
  PE.imp (pe_slice (sl_ok hK m) ha hl hh) fun σ H Q ⟨s, E, q, x, hs, he, h, post, hx⟩ => LE.go hs he h hx fun d E1 v H1 s1 he1 hd1 h1 => LO.go (hs.grow s1.g) he1 h1 (hx.step s1) fun l E2 H2 s2 he2 h2 =>
    LO.go (hs.grow (s1.trans s2).g) he2 h2 (hx.step (s1.trans s2)) fun l2 E3 H3 s3 he3 h3 => ⟨d, E3, q, he3, (hd1.grow s2.g).grow s3.g, h3, fun d E4 z H4 s4 => post d E4 z H4 (((s1.trans s2).trans s3).trans s4)⟩
theorem de_rev (hK : X.K = T.K) (m : Bool) {k : Nat} {q1 q2 q3 : Pos} (ha : DE X T W a ta) :
    DE X T W (.Subscript a (.Slice none none (some (.UnaryOp .USub (.Constant (.int 1) k q1) q2)) q3) pos) (fun s E q x => ta s E (fun d E1 => asL E1 d fun ds => newL m ds.reverse E1 q) x) :=
  PE.imp (PE.fz (pe_revL ha)) fun σ H Q ⟨s, E, q, x, hs, he, h, post, hx⟩ => LE.go hs he h hx fun d E1 v H1 s1 he1 hd1 h1 => by
    obtain ⟨ds, e, h1⟩ := asL_inv h1
    obtain ⟨a, vs, rfl, hs, hr⟩ := lv_ok he1 hd1 e
    refine ⟨a, vs, rfl, hs.sq hK, newL_go he1 ?_ h1 fun d E2 z H2 s2 => post d E2 z H2 (s1.trans s2)⟩
    clear e h1 hs
    induction ds generalizing vs with
    | nil => unfold RDs at hr; subst hr; exact .nil
    | cons d ds ih =>
      unfold RDs at hr
      obtain ⟨v, r, rfl, a1, a2⟩ := hr
      rw [List.reverse_cons, List.reverse_cons]
      exact (ih r a2).append (.cons a1 .nil)
/-- a list is known to change no more -/
theorem de_fz (ha : DE X T W a ta) : DE X T W a (fun s E q x => ta s E (fun d E1 => asC E1 d fun p ds => q (.lst ds) (E1.del p)) x) :=
  PE.imp (PE.fz ha) fun σ H Q ⟨s, E, q, x, hs, he, h, post, hx⟩ => LE.go hs he h hx fun d E1 v H1 s1 he1 hd1 h1 => by
    obtain ⟨p, ds, ee, e, hh⟩ := asC_inv h1; subst ee; have h1 := hh
    rw [rd_ref] at hd1; subst hd1
    obtain ⟨vs, z, r⟩ := he1 p _ e
    have hm := he1.mut e
    exact .inr ⟨p, vs, rfl, z, fun o => post (.lst ds) _ _ _ (s1.trans (.del hm e)) (he1.del hm) (by unfold RD; exact ⟨p, vs, rfl, .inl ⟨o, upd_same⟩, r.grow (.mut hm)⟩) h1⟩
end
end DL

set_option Elab.async false
set_option linter.all false
set_option maxRecDepth 100000
namespace DL
open PySem L2 PySem.Spec PyProof.Rows

/-! # what is walked -/
/-- J gives ds, as long as G holds -/
def Wk (T : Tb) (J : It) (G : En → Prop) (ds : List D) (H0 : Hp) : Prop := ∀ E H i, Grow H0 H → RE T H E → G E →
  (∀ d, ds[i]? = some d → J.go i H ∧ ∀ x H', J.yld i H x H' → Stp E H E H' ∧ RE T H' E ∧ RD T.K H' d x) ∧ (ds.length ≤ i → J.stop i H)
abbrev TID := SD → En → (List D → (En → Prop) → En → Prop) → XP → Prop
def LI (T : Tb) (W : WX) (t : TID) : TI := fun σ H R => ∃ s E q x, RS T H s σ ∧ RE T H E ∧ t s E q x ∧ (∀ ds G E' J H', Stp E H E' H' → RE T H' E' → Wk T J G ds H' → q ds G E' → R J H') ∧ XOk T W E H x
theorem PI.imp {X : Cx} {tg e : Expr} {t t' : TI} (h : PI X tg e t) (i : ∀ σ H Q, t' σ H Q → t σ H Q) : PI X tg e t' := ⟨fun pins s σ H Q I q => h.run pins s σ H Q I (i _ _ _ q)⟩
section
variable {X : Cx} {T : Tb} {W : WX} {a b c e o tg : Expr} {es : List Expr} {ta tb tc to : TD} {t tA : TAD} {pos apos p p2 : Pos}
def iSeq (K : PySem.W.Frag) (te : TE) : TI := fun σ H R => te σ H fun v H1 => (∃ a, v = .ref a ∧ (∃ xs, SqL K H1 a xs) ∧ R (Itl K a) H1) ∨ (∃ a, v = .ref a ∧ (∃ xs, SqT K H1 a xs) ∧ R (Itt K a) H1) ∨ ∃ x, v = .str x ∧ R (Its x) H1
theorem pi_seq {te : TE} (he : PE X e te) : PI X tg e (iSeq X.K te) := by
  refine ⟨fun pins s σ H R I h => ?_⟩
  refine thn (he.run pins s σ H _ I h) fun v s1 ⟨y, H1, I1, r1, q1⟩ => ?_
  rcases q1 with ⟨a, e, ⟨xs, hq⟩, q⟩ | ⟨a, e, ⟨xs, hq⟩, q⟩ | ⟨x, ex, q⟩
  · subst e
    cases r1
    obtain ⟨its, rv, p, hz⟩ := I1.list hq
    refine wpAny_pyIter_list p.isList ?_
    refine ⟨s1.heap.objs.size, [s1.heap.objs.size], _, _, H1, rfl, I1.kept (t' := s1.toks) fun b o e => Heap.get?_push_of_some _ e, turn_list a _, ⟨_, Heap.get?_push_size _ rfl, rfl, rfl⟩, fun b hb => ?_, q⟩
    have e : b = s1.heap.objs.size := by simpa using hb
    subst e
    exact I1.fpOk (Nat.le_refl _) (I1.hok.fresh (Nat.le_refl _))
  · subst e
    cases r1
    obtain ⟨its, rv, p, hz⟩ := I1.tuple hq
    refine wpAny_pyIter_tuple (show s1.heap.IsTuple a its.toArray from p) ?_
    refine ⟨s1.heap.objs.size, [s1.heap.objs.size], _, _, H1, rfl, I1.kept (t' := s1.toks) fun b o e => Heap.get?_push_of_some _ e, turn_tuple a _, ⟨_, Heap.get?_push_size _ rfl, rfl, rfl⟩, fun b hb => ?_, q⟩
    have e : b = s1.heap.objs.size := by simpa using hb
    subst e
    exact I1.fpOk (Nat.le_refl _) (I1.hok.fresh (Nat.le_refl _))
  · subst ex
    obtain ⟨t, rfl⟩ := r1
    cases ha : x.cps.all (· < 128)
    · exact wpAny_pyIter_wide ha (pi_one (tk := s1.toks) I1 _ (turn_str _ x t "str_iterator" (.inr rfl)) ⟨_, Heap.get?_push_size _ rfl, rfl, rfl⟩ q)
    · exact wpAny_pyIter_ascii ha (pi_one (tk := s1.toks) I1 _ (turn_str _ x t "str_ascii_iterator" (.inl rfl)) ⟨_, Heap.get?_push_size _ rfl, rfl, rfl⟩ q)
theorem RS.refl {T : Tb} {H : Hp} {s : SD} {σ : L2.St} (h : RS T H s σ) : RS T H s σ := h
theorem di_seq (hK : X.K = T.K) (he : DE X T W e ta) : PI X tg e (LI T W fun s E q x => ta s E (fun d E1 => seqR E1 d q) x) :=
  PI.imp (pi_seq he) fun σ H R ⟨s, E, q, x, hs, hE, h, post, hx⟩ => LE.go hs hE h hx fun d E1 v H1 s1 he1 hd1 h1 => by
    have done : ∀ {E : En}, RE T H1 E → Stp E H1 E H1 := fun _ => Stp.refl _ _
    cases d with
    | str z =>
      rw [rd_str] at hd1; subst hd1
      refine .inr (.inr ⟨_, rfl, post _ _ _ (Its (toS z)) _ s1 he1 (fun E' H' i g hE' _ => ⟨fun d e => ?_, fun hl => ?_⟩) h1⟩)
      · rw [List.getElem?_map] at e
        cases q : z[i]? with
        | none => rw [q] at e; cases e
        | some c =>
          rw [q] at e
          cases e
          have hi : i < z.length := (List.getElem?_eq_some_iff.mp q).1
          refine ⟨by show i < (toS z).cps.size; unfold toS; simpa using hi, fun x H2 ⟨e1, c', e2, e3⟩ => ?_⟩
          subst e1
          have : c' = c := by
            have e4 : z[i]? = some c' := by simpa [toS] using e2
            rw [q] at e4; cases e4; rfl
          subst this
          exact ⟨.refl _ _, hE', rd_str.mpr e3⟩
      · show (toS z).cps.size ≤ i
        unfold toS
        simpa using hl
    | tup ds =>
      unfold RD at hd1
      obtain ⟨a, vs, rfl, hq, hr⟩ := hd1
      rw [← hK] at hq
      refine .inr (.inl ⟨a, rfl, ⟨vs, hq⟩, post ds _ _ (Itt X.K a) _ s1 he1 (fun E' H' i g hE' _ => ⟨fun d e => ?_, fun hl => ?_⟩) h1⟩)
      · obtain ⟨v, e1, hv⟩ := hr.get e
        exact ⟨⟨vs, v, g.sqT hq, e1⟩, fun x H2 ⟨ee, hx2⟩ => by
          subst ee
          have := hx2 vs (g.sqT hq)
          rw [e1] at this; cases this
          exact ⟨.refl _ _, hE', hv.grow g⟩⟩
      · exact ⟨vs, g.sqT hq, by rw [hr.length]; exact hl⟩
    | lst ds =>
      unfold RD at hd1
      obtain ⟨a, vs, rfl, hq, hr⟩ := hd1
      have sq : ∀ {H' : Hp}, Grow H1 H' → SqL X.K H' a vs := fun g => (g.fzL hq).rd.sq hK
      refine .inl ⟨a, rfl, ⟨vs, sq (.refl _)⟩, post ds _ _ (Itl X.K a) _ s1 he1 (fun E' H' i g hE' _ => ⟨fun d e => ?_, fun hl => ?_⟩) h1⟩
      · obtain ⟨v, e1, hv⟩ := hr.get e
        exact ⟨⟨vs, v, sq g, e1⟩, fun x H2 ⟨ee, hx2⟩ => by
          subst ee
          have := hx2 vs (sq g)
          rw [e1] at this; cases this
          exact ⟨.refl _ _, hE', hv.grow g⟩⟩
      · exact ⟨vs, sq g, by rw [hr.length]; exact hl⟩
    | ref a =>
      rw [rd_ref] at hd1; subst hd1
      unfold seqR at h1
      cases e0 : E1 a with
      | none => simp only [e0] at h1
      | some c => cases c with
        | ins _ _ => simp only [e0] at h1
        | lst ds =>
          simp only [e0] at h1
          obtain ⟨vs0, z0, _⟩ := he1 a _ e0
          refine .inl ⟨a, rfl, ⟨vs0, .inl (.inl z0)⟩, post ds _ _ (Itl X.K a) _ s1 he1 (fun E' H' i g hE' hg => ?_) h1⟩
          obtain ⟨vs, z, hr⟩ := hE' a _ hg
          have sq : SqL X.K H' a vs := .inl (.inl z)
          refine ⟨fun d e => ?_, fun hl => ⟨vs, sq, by rw [hr.length]; exact hl⟩⟩
          obtain ⟨v, e1, hv⟩ := hr.get e
          exact ⟨⟨vs, v, sq, e1⟩, fun x H2 ⟨ee, hx2⟩ => by
            subst ee
            have := hx2 vs sq
            rw [e1] at this; cases this
            exact ⟨.refl _ _, hE', hv⟩⟩
    | non => exact h1.elim
    | bl _ => exact h1.elim
    | int _ => exact h1.elim
theorem wk_rng {lo : Int} {n : Nat} {H0 : Hp} : Wk T (Itr lo n) (fun _ => True) (rngD lo n) H0 := fun E H i g he _ => ⟨fun d e => by
    unfold rngD at e
    rw [List.getElem?_map] at e
    cases q : (List.range n)[i]? with
    | none => rw [q] at e; cases e
    | some k =>
      rw [q] at e; cases e
      have hi : i < n := by have := (List.getElem?_eq_some_iff.mp q).1; simpa using this
      have hk : k = i := by rw [List.getElem?_range hi] at q; cases q; rfl
      subst hk
      exact ⟨hi, fun x H2 ⟨ee, ex⟩ => by subst ee; exact ⟨.refl _ _, he, rd_int.mpr ex⟩⟩, fun hl => by
    unfold rngD at hl
    show n ≤ i
    simpa using hl⟩
theorem di_rng1 (hg : Gl X "range") (hm : X.mg "range" = none) (ha : DE X T W a ta) (hp : plainE a = true) :
    PI X tg (.Call (.Name "range" p) [a] [] pos) (LI T W fun s E q x => ta s E (fun d E1 => asI d fun n => -(2 ^ 60) < n ∧ n < 2 ^ 60 ∧ q (rngD 0 n.toNat) (fun _ => True) E1) x) :=
  PI.imp (pi_range1 hg hm (pa_cons ha pa_nil (star_cons hp)) (star_cons hp)) fun σ H R ⟨s, E, q, x, hs, hE, h, post, hx⟩ => LE.go hs hE h hx fun d E1 v H1 s1 he1 hd1 h1 => by
    obtain ⟨n, ee, b1, b2, hh⟩ := asI_inv h1
    subst ee
    rw [rd_int] at hd1; subst hd1
    exact ⟨n, rfl, by omega, by omega, post _ _ _ _ _ s1 he1 wk_rng hh⟩
theorem di_rng2 (hg : Gl X "range") (hm : X.mg "range" = none) (ha : DE X T W a ta) (hb : DE X T W b tb) (hp : plainE a = true) (hp2 : plainE b = true) :
    PI X tg (.Call (.Name "range" p) [a, b] [] pos) (LI T W fun s E q x => ta s E (fun d E1 => tb s E1 (fun d2 E2 => asI d fun l => asI d2 fun h => -(2 ^ 60) < l ∧ l < 2 ^ 60 ∧ -(2 ^ 60) < h ∧ h < 2 ^ 60 ∧ q (rngD l (h - l).toNat) (fun _ => True) E2) x) x) :=
  PI.imp (pi_range2 hg hm (pa_cons ha (pa_cons hb pa_nil (star_cons hp2)) (star_cons hp)) (by rw [star_cons hp, star_cons hp2]; rfl) (star_cons hp2)) fun σ H R ⟨s, E, q, x, hs, hE, h, post, hx⟩ => LE.go hs hE h hx fun d E1 v H1 s1 he1 hd1 h1 =>
    LE.go (hs.grow s1.g) he1 h1 (hx.step s1) fun d2 E2 w H2 s2 he2 hd2 h2 => by
    obtain ⟨l, ee, hh⟩ := asI_inv h2
    subst ee
    obtain ⟨n, ee, b1, b2, b3, b4, h3⟩ := asI_inv hh
    subst ee
    rw [rd_int] at hd1 hd2; subst hd1 hd2
    exact ⟨l, n, rfl, ⟨by omega, by omega, by omega, by omega⟩, post _ _ _ _ _ (s1.trans s2) he2 wk_rng h3⟩

/-! # targets -/
/-- only these slots may differ -/
structure Dif (L : List Nat) (σ σ' : L2.St) : Prop where
  len : σ'.length = σ.length
  eq : ∀ i, i ∉ L → σ'[i]? = σ[i]?
theorem Dif.refl (L : List Nat) (σ : L2.St) : Dif L σ σ := ⟨rfl, fun _ _ => rfl⟩
theorem Dif.trans {L M : List Nat} {a b c : L2.St} (h : Dif L a b) (k : Dif M b c) : Dif (L ++ M) a c := ⟨k.len.trans h.len, fun i hi => by
  simp only [List.mem_append, not_or] at hi
  exact (k.eq i hi.2).trans (h.eq i hi.1)⟩
abbrev TGD := D → SD → En → (SD → En → Prop) → XP → Prop
abbrev TGsD := List D → SD → En → (SD → En → Prop) → XP → Prop
def LG (T : Tb) (W : WX) (L : List Nat) (t : TGD) : TG := fun v σ H Q => ∃ d s E q x, RS T H s σ ∧ RE T H E ∧ RD T.K H d v ∧ t d s E q x ∧ (∀ s' E' σ' H', Stp E H E' H' → Dif L σ σ' → RS T H' s' σ' → RE T H' E' → q s' E' → Q σ' H') ∧ XOk T W E H x
def LGs (T : Tb) (W : WX) (L : List Nat) (t : TGsD) : TGs := fun vs σ H Q => ∃ ds s E q x, RS T H s σ ∧ RE T H E ∧ RDs T.K H ds vs ∧ t ds s E q x ∧ (∀ s' E' σ' H', Stp E H E' H' → Dif L σ σ' → RS T H' s' σ' → RE T H' E' → q s' E' → Q σ' H') ∧ XOk T W E H x
theorem PG.imp {X : Cx} {e : Expr} {t t' : TG} (h : PG X e t) (i : ∀ v σ H Q, t' v σ H Q → t v σ H Q) : PG X e t' := ⟨fun pins s σ H v u Q I r q => h.run pins s σ H v u Q I r (i _ _ _ _ q)⟩
theorem PGs.imp {X : Cx} {e : List Expr} {t t' : TGs} (h : PGs X e t) (i : ∀ v σ H Q, t' v σ H Q → t v σ H Q) : PGs X e t' := ⟨fun pins s σ H v u Q I r q => h.run pins s σ H v u Q I r (i _ _ _ _ q)⟩
theorem RS.set {H : Hp} {s : SD} {σ : L2.St} (h : RS T H s σ) {d : D} {v : V} (hd : RD T.K H d v) (i : Nat) : RS T H (s.set i (some d)) (σ.set i (some v)) := by
  refine ⟨by rw [List.length_set, List.length_set]; exact h.1, fun j d' e => ?_⟩
  by_cases hj : i = j
  · subst hj
    have hl : i < s.length := by
      have := (List.getElem?_eq_some_iff.mp e).1
      rwa [List.length_set] at this
    rw [List.getElem?_set_self hl] at e
    cases e
    exact ⟨v, List.getElem?_set_self (by rw [← h.1]; exact hl), hd⟩
  · rw [List.getElem?_set_ne hj] at e ⊢
    exact h.2 j d' e
theorem dg_nm {i : Nat} (h : PG X e (gName i)) : PG X e (LG T W [i] fun d s E q x => i < s.length ∧ q (s.set i (some d)) E) :=
  PG.imp h fun v σ H Q ⟨d, s, E, q, x, hs, he, hd, h, post, hx⟩ => post _ _ _ _ (.refl _ _) ⟨List.length_set, fun j hj => List.getElem?_set_ne (fun z => hj (by simp [z]))⟩ (hs.set hd i) he h.2
theorem dgs_nil : PGs X [] (LGs T W [] fun ds s E q x => ds = [] ∧ q s E) :=
  PGs.imp pgs_nil fun v σ H Q ⟨d, s, E, q, x, hs, he, hd, h, post, hx⟩ => by
    obtain ⟨e1, h⟩ := h
    subst e1
    unfold RDs at hd
    exact ⟨hd, post _ _ _ _ (.refl _ _) (.refl _ _) hs he h⟩
theorem asg_cons {e : Expr} {es : List Expr} {env : Env} (h : plainE e = true) : assignEach (e :: es) env = (false, assign e env) :: assignEach es env := by
  cases e <;> first | rfl | (exact absurd h Bool.false_ne_true)
theorem asg_len {env : Env} : ∀ {es : List Expr}, es.all plainE = true → (assignEach es env).length = es.length ∧ (assignEach es env).findIdx? (·.1) = none
  | [], _ => ⟨rfl, rfl⟩
  | e :: es, h => by
    rw [List.all_cons, Bool.and_eq_true] at h
    rw [asg_cons h.1]
    obtain ⟨h1, h2⟩ := asg_len (env := env) h.2
    refine ⟨by rw [List.length_cons, h1]; rfl, ?_⟩
    rw [List.findIdx?_cons, h2]
    rfl
theorem dgs_cons {L M : List Nat} {tg1 : TGD} {tgs : TGsD} (hg : PG X e (LG T W L tg1)) (hs : PGs X es (LGs T W M tgs)) (hp : plainE e = true) :
    PGs X (e :: es) (LGs T W (L ++ M) fun ds s E q x => ∃ d r, ds = d :: r ∧ tg1 d s E (fun s1 E1 => tgs r s1 E1 q x) x) :=
  PGs.imp (pgs_cons hg hs (by rw [asg_cons hp]; rfl)) fun v σ H Q ⟨ds, s, E, q, x, hs, he, hd, h, post, hx⟩ => by
    obtain ⟨d, r, e1, h⟩ := h
    subst e1
    unfold RDs at hd
    obtain ⟨v1, r1, e2, hd1, hd2⟩ := hd
    exact ⟨v1, r1, e2, d, s, E, _, x, hs, he, hd1, h, fun s' E' σ' H' s1 f1 hs' he' h' => ⟨r, s', E', q, x, hs', he', hd2.grow s1.g, h', fun s2 E2 σ2 H2 st2 f2 => post s2 E2 σ2 H2 (s1.trans st2) (f1.trans f2), hx.step s1⟩, hx⟩
theorem dg_tup (hK : X.K = T.K) (hc : X.calm = true) {L : List Nat} {tgs : TGsD} {k : Nat} (h : PGs X es (LGs T W L tgs)) (hp : es.all plainE = true) :
    PG X (.Tuple es k pos) (LG T W L fun d s E q x => asT d fun ds => ds.length = es.length ∧ tgs ds s E q x) :=
  PG.imp (pg_tup hc h (asg_len hp).1 (asg_len hp).2) fun v σ H Q ⟨d, s, E, q, x, hs, he, hd, h, post, hx⟩ => by
    obtain ⟨ds, ee, hl, hh⟩ := asT_inv h
    subst ee
    unfold RD at hd
    obtain ⟨a, vs, e, hq, hr⟩ := hd
    exact ⟨a, vs, e, by rw [hK]; exact hq, by rw [hr.length]; exact hl, ds, s, E, q, x, hs, he, hr, hh, post, hx⟩
theorem dg_sub {L : List Nat} {ti : TD} {i : Expr} (ho : DE X T W o to) (hi : DE X T W i ti) (hp : plainIx i = true) :
    PG X (.Subscript o i pos) (LG T W L fun d s E q x => to s E (fun o E1 => ti s E1 (fun i E2 => asI i fun k => asC E2 o fun a xs => opt (ixN xs.length k) fun j => q s (E2.set a (.lst (xs.set j d)))) x) x) :=
  PG.imp (pg_sub ho hi set_list (by intro _; cases i <;> first | rfl | exact absurd hp Bool.false_ne_true)) fun v σ H Q ⟨d, s, E, q, x, hs, he, hd, h, post, hx⟩ => LE.go hs he h hx fun d1 E1 v1 H1 s1 he1 hd1 h1 => LE.go (hs.grow s1.g) he1 h1 (hx.step s1) fun d2 E2 v2 H2 s2 he2 hd2 h2 => by
    obtain ⟨k, ee, h3⟩ := asI_inv h2
    subst ee
    obtain ⟨a, xs, ee, ea, h4⟩ := asC_inv h3
    subst ee
    obtain ⟨j, ej, h5⟩ := opt_inv h4
    have hd1' := hd1.grow s2.g
    rw [rd_int] at hd2; subst hd2
    rw [rd_ref] at hd1'; subst hd1'
    obtain ⟨us, z, r⟩ := he2 a _ ea
    have hm := he2.mut ea
    have s12 := s1.trans s2
    have s3 : Stp E H (E2.set a (.lst (xs.set j d))) (upd H2 a (.lst (us.set j v))) := s12.trans (.put hm ea)
    exact ⟨a, us, k, j, rfl, rfl, z, by rw [r.length]; exact ej, post s _ σ _ s3 (.refl _ _) (hs.grow s3.g) (he2.setL hm (r.set (hd.grow s12.g) j)) h5⟩
end
end DL

set_option Elab.async false
set_option linter.all false
set_option maxRecDepth 100000
namespace DL
open PySem L2 PySem.Spec PyProof.Rows

/-! # comprehensions -/
abbrev W0 : WX := fun _ _ _ _ => False
theorem x0 {T : Tb} {E : En} {H : Hp} : XOk T W0 E H noX := fun _ _ _ _ _ _ _ _ h => h
section
variable {T : Tb}
theorem Stp.behind {E E' : En} {H H' : Hp} {p : Addr} {o : HO} (h : Stp E H E' H') (hp : H p = none) (hm : Mut (H' p)) : Stp E H E' (upd H' p o) :=
  ⟨h.g.trans (.mut hm), fun a u e n => by rw [upd_ne (ne_of_none e hp)]; exact h.frm a u e n, h.dom⟩
theorem Stp.told {E E' : En} {H H' : Hp} {p : Addr} {c : Cell} (h : Stp E H E' H') (hp : H p = none) : Stp E H (E'.set p c) H' :=
  ⟨h.g, h.frm, fun a u e n => by rw [En.set_ne _ _ (ne_of_none e hp)]; exact h.dom a u e n⟩
theorem RE.behind {E : En} {H : Hp} {p : Addr} {o : HO} (h : RE T H E) (hp : E p = none) (hm : Mut (H p)) : RE T (upd H p o) E := fun a c e => by
  have hn : a ≠ p := fun z => by subst z; rw [hp] at e; cases e
  exact (h a c e).upd hn (.mut hm)
theorem RE.told {E : En} {H : Hp} {p : Addr} {ds : List D} {vs : List V} (h : RE T H E) (hp : H p = some (.lst vs)) (r : RDs T.K H ds vs) : RE T H (E.set p (.lst ds)) := fun a c e => by
  by_cases hn : a = p
  · subst hn
    rw [En.set_same] at e; cases e
    exact ⟨vs, hp, r⟩
  · rw [En.set_ne _ _ hn] at e
    exact h a c e
theorem wipe_get (σ : L2.St) : ∀ (vs : List Nat) (i : Nat), i ∉ vs → (wipe σ vs)[i]? = σ[i]?
  | [], _, _ => rfl
  | v :: vs, i, h => by
    simp only [List.mem_cons, not_or] at h
    unfold wipe
    rw [List.getElem?_set_ne (fun z => h.1 z.symm)]
    exact wipe_get σ vs i h.2
theorem wipe_in (σ : L2.St) : ∀ (vs : List Nat) (i : Nat), i ∈ vs → (wipe σ vs)[i]? = if i < σ.length then some none else none
  | v :: vs, i, h => by
    unfold wipe
    by_cases hv : v = i
    · subst hv
      by_cases hl : v < σ.length
      · rw [if_pos hl, List.getElem?_set_self (by rw [wipe_length]; exact hl)]
      · rw [if_neg hl, List.getElem?_eq_none (by rw [List.length_set, wipe_length]; omega)]
    · rw [List.getElem?_set_ne hv]
      exact wipe_in σ vs i ((List.mem_cons.mp h).resolve_left (fun z => hv z.symm))
theorem wipe_dif {L vs : List Nat} {σ σ' : L2.St} (h : Dif L (wipe σ vs) σ') (hL : ∀ i ∈ L, i ∈ vs) : wipe σ' vs = wipe σ vs := by
  have hl : σ'.length = σ.length := by rw [h.len, wipe_length]
  refine List.ext_getElem? fun i => ?_
  by_cases hi : i ∈ vs
  · rw [wipe_in _ _ _ hi, wipe_in _ _ _ hi, hl]
  · rw [wipe_get _ _ _ hi, wipe_get _ _ _ hi, h.eq i (fun z => hi (hL i z)), wipe_get _ _ _ hi]
theorem wipeD_length (s : SD) : ∀ vs : List Nat, (wipeD s vs).length = s.length
  | [] => rfl
  | v :: vs => by unfold wipeD; rw [List.length_set, wipeD_length s vs]
theorem RS.wipe {H : Hp} {s : SD} {σ : L2.St} (h : RS T H s σ) : ∀ vs : List Nat, RS T H (wipeD s vs) (L2.wipe σ vs)
  | [] => h
  | v :: vs => by
    have ih := RS.wipe h vs
    unfold wipeD L2.wipe
    refine ⟨by rw [List.length_set, List.length_set]; exact ih.1, fun j d e => ?_⟩
    by_cases hj : v = j
    · subst hj
      by_cases hl : v < (wipeD s vs).length
      · rw [List.getElem?_set_self hl] at e; cases e
      · rw [List.getElem?_eq_none (by rw [List.length_set]; omega)] at e; cases e
    · rw [List.getElem?_set_ne hj] at e ⊢
      exact ih.2 j d e
variable {W : WX} {tI : TID} {g : TGD} {tt : TTD} {te : TD} {L own : List Nat} {m : Bool}
theorem lc_read (hL : ∀ i ∈ L, i ∈ own) {σ : L2.St} {H : Hp} {Q : VK}
    (h : LE T W (fun s E q x => tI s E (fun ds G E1 => ds.length ≤ 16777216 ∧ wLc (fun d s' E' k => g d s' E' k noX) (fun s' E' k => tt s' E' k noX) (fun s' E' k => te s' E' k noX) G (wipeD s own) ds E1 fun ys E2 => newL m ys E2 q) x) σ H Q) :
    tLc (LI T W tI) (LG T W0 L g) (LT T W0 tt) (LE T W0 te) own σ H (QF Q) := by
  obtain ⟨s, E, q, x, hs, he, h, post, hx⟩ := h
  refine ⟨s, E, _, x, hs, he, h, fun ds G E1 J H1 s1 he1 wk h1 Dl hD => ?_, hx⟩
  obtain ⟨hz, h1⟩ := h1
  refine ⟨fun i n H' => i ≤ ds.length ∧ n = ds.length - i ∧ ∃ E' acd acc, Stp E1 H1 E' H' ∧ RE T H' E' ∧ H' Dl = some (.lst acc) ∧ RDs T.K H' acd acc ∧ E' Dl = none ∧ acd.length ≤ i ∧
    wLc (fun d s' E' k => g d s' E' k noX) (fun s' E' k => tt s' E' k noX) (fun s' E' k => te s' E' k noX) G (wipeD s own) (ds.drop i) E' (fun ys E4 => newL m (acd ++ ys) E4 q), ?_, ?_⟩
  · exact ⟨ds.length, Nat.zero_le _, rfl, E1, [], [], .new hD, he1.new hD, upd_same, .nil, he1.free hD, Nat.le_refl _, by simpa using h1⟩
  · rintro i n H2 ⟨hi, hn, E2, acd, acc, s2, he2, hD2, hr, hE, ha, hw⟩
    cases e : ds.drop i with
    | nil =>
      have hl : ds.length ≤ i := by simpa using e
      rw [e] at hw
      obtain ⟨hG, hw⟩ := hw
      refine .inl ⟨(wk E2 H2 i s2.g he2 hG).2 hl, ?_⟩
      rw [List.append_nil] at hw
      have st := s1.trans s2
      cases m with
      | true =>
        obtain ⟨_, hw⟩ := hw
        rw [if_pos rfl] at hw
        exact .inl (post _ _ _ _ (s1.trans (s2.told hD)) (he2.told hD2 hr) (rd_ref.mpr rfl) (hw Dl hE))
      | false =>
        obtain ⟨_, hw⟩ := hw
        rw [if_neg Bool.false_ne_true] at hw
        refine .inr ⟨Dl, acc, rfl, hD2, fun o => ?_⟩
        have hm : Mut (H2 Dl) := by rw [hD2]; trivial
        exact post (.lst acd) _ _ _ (s1.trans (s2.behind hD hm)) (he2.behind hE hm) (by unfold RD; exact ⟨Dl, acc, rfl, .inl ⟨o, upd_same⟩, hr.grow (.mut hm)⟩) hw
    | cons d rest =>
      have hd : ds[i]? = some d := by
        have := congrArg List.head? e
        rw [List.head?_drop] at this
        exact this
      have hlt : i < ds.length := (List.getElem?_eq_some_iff.mp hd).1
      have er : ds.drop (i + 1) = rest := by
        have := congrArg List.tail e
        rw [List.tail_drop] at this
        exact this
      rw [e] at hw
      obtain ⟨hG, hw⟩ := hw
      obtain ⟨hgo, hy⟩ := (wk E2 H2 i s2.g he2 hG).1 d hd
      refine .inr ⟨hgo, fun H3 => ∃ E' acd acc, Stp E1 H1 E' H3 ∧ RE T H3 E' ∧ H3 Dl = some (.lst acc) ∧ RDs T.K H3 acd acc ∧ E' Dl = none ∧ acd.length ≤ i + 1 ∧
        wLc (fun d s' E' k => g d s' E' k noX) (fun s' E' k => tt s' E' k noX) (fun s' E' k => te s' E' k noX) G (wipeD s own) rest E' (fun ys E4 => newL m (acd ++ ys) E4 q), ?_, ?_⟩
      · rintro H3 ⟨E3, a3, c3, k1, k2, k3, k4, k5, k6, k7⟩
        exact ⟨ds.length - (i + 1), by omega, by omega, rfl, E3, a3, c3, k1, k2, k3, k4, k5, k6, by rw [er]; exact k7⟩
      · intro xv H3 hyl
        obtain ⟨s3, he3, hx3⟩ := hy xv H3 hyl
        have s23 := s2.trans s3
        have keep : ∀ {E' : En} {H' : Hp}, Stp E2 H2 E' H' → H' Dl = some (.lst acc) ∧ E' Dl = none ∧ RDs T.K H' acd acc := fun st => ⟨st.frm _ _ hD2 hE, st.dom _ _ hD2 hE, hr.grow st.g⟩
        refine ⟨d, wipeD s own, E2, _, noX, (hs.wipe own).grow (s1.trans s23).g, he3, hx3, hw, fun s4 E4 σ4 H4 st4 df rs4 re4 hc => ⟨wipe_dif df hL, ?_⟩, x0⟩
        refine LT.go rs4 re4 hc x0 fun b E5 H5 st5 re5 hb => ?_
        have t5 := (s3.trans st4).trans st5
        cases b with
        | false =>
          rw [if_neg Bool.false_ne_true] at hb ⊢
          obtain ⟨k1, k2, k3⟩ := keep t5
          exact ⟨E5, acd, acc, s2.trans t5, re5, k1, k3, k2, by omega, hb⟩
        | true =>
          rw [if_pos rfl] at hb ⊢
          refine LE.go (rs4.grow st5.g) re5 hb x0 fun y E6 v H6 st6 re6 hv hb6 => ?_
          have t6 := t5.trans st6
          obtain ⟨k1, k2, k3⟩ := keep t6
          have hm : Mut (H6 Dl) := by rw [k1]; trivial
          refine ⟨acc, k1, by rw [hr.length, sizeLine_eq]; omega, E6, acd ++ [y], acc ++ [v], (s2.trans t6).behind hD hm, re6.behind k2 hm, upd_same, (k3.append (.cons hv .nil)).grow (.mut hm), k2, by rw [List.length_append]; simp; omega, ?_⟩
          simpa [List.append_assoc] using hb6
end
/-- a new list in a slot may be frozen at once -/
def NF (N : L2.St → Hp → Prop) : L2.St → Hp → Prop := fun σ H => N σ H ∨ ∃ p vs, H p = some (.lst vs) ∧ ∀ o, N σ (upd H p (.frz o (.lst vs)))
theorem PS.fz {X : Cx} {st : Stmt} {t : TS} (h : PS X st t) : PS X st (fun D σ H => t { D with nx := NF D.nx } σ H) := ⟨fun pins s σ H D I q => thn (h.run pins s σ H _ I q) fun f s' hs => by
  cases f with
  | next =>
    obtain ⟨σ', H', I', q'⟩ := hs
    rcases q' with q' | ⟨p, vs, hp, q'⟩
    · exact ⟨σ', H', I', q'⟩
    · obtain ⟨od, I2⟩ := I'.lock hp trivial
      exact ⟨σ', _, I2, q' od⟩
  | brk => exact hs
  | cont => exact hs
  | ret u => exact hs⟩
section
variable {X : Cx} {T : Tb} {W : WX} {elt tg iter : Expr} {ifs : List Expr} {scope : Scope} {own : List (Str × Nat)} {pos spos py : Pos} {tI : TID} {g : TGD} {tt : TTD} {te : TD} {L : List Nat} {m : Bool}
/-- the block's parts fit -/
structure Blk (X : Cx) (T : Tb) (scope : Scope) (own : List (Str × Nat)) (tg elt : Expr) (ifs : List Expr) (g : TGD) (tt : TTD) (te : TD) (L : List Nat) : Prop where
  ok : BlkOk X.N X.env.scope scope own
  g : ∀ (s : Shared) (H : Hp) (C : Addr) (cl : List (Str × Addr)) (fp : List Addr), PG (X.blk s H scope (compEnvC scope cl C X.env) fp) tg (LG T W0 L g)
  t : ∀ (s : Shared) (H : Hp) (C : Addr) (cl : List (Str × Addr)) (fp : List Addr), PTs (X.blk s H scope (compEnvC scope cl C X.env) fp) ifs (LT T W0 tt)
  e : ∀ (s : Shared) (H : Hp) (C : Addr) (cl : List (Str × Addr)) (fp : List Addr), PE (X.blk s H scope (compEnvC scope cl C X.env) fp) elt (LE T W0 te)
  L : ∀ i ∈ L, i ∈ own.map (·.2)
theorem de_lc (hc : X.calm = true) (hN : X.N.Nodup) (hi : PI X tg iter (LI T W tI)) (B : Blk X T scope own tg elt ifs g tt te L) (hs : noSet iter = true) :
    DE X T W (.ListComp elt [⟨tg, iter, ifs, 0⟩] scope pos) (fun s E q x => tI s E (fun ds G E1 => ds.length ≤ 16777216 ∧ wLc (fun d s' E' k => g d s' E' k noX) (fun s' E' k => tt s' E' k noX) (fun s' E' k => te s' E' k noX) G (wipeD s (own.map (·.2))) ds E1 fun ys E2 => newL m ys E2 q) x) :=
  PE.imp (PE.fz (pe_lc hc hN hi B.ok B.g B.t B.e (fold_no hs))) fun σ H Q h => lc_read B.L h
theorem EOk.nxE {E : En} {H : Hp} {D' : EndD} {D : Ends} (h : EOk T W E H D' D) {s : SD} {σ : L2.St} : True := trivial
theorem ds_setLc {i : Nat} {y : Str} (hc : X.calm = true) (hN : X.N.Nodup) (hy : X.N[i]? = some y) (hyl : X.env.scope.names.lookup y = some .local)
    (hsw : swapsWith (.ListComp elt [⟨tg, iter, ifs, 0⟩] scope pos) (some (.Name y py)) spos.line X.env = pure true) (hi : PI X tg iter (LI T W tI)) (B : Blk X T scope own tg elt ifs g tt te L) (hs : noSet iter = true) :
    DS X T W (.Assign [.Name y py] (.ListComp elt [⟨tg, iter, ifs, 0⟩] scope pos) spos) (fun D' s E => (tI s E (fun ds G E1 => ds.length ≤ 16777216 ∧ wLc (fun d s' E' k => g d s' E' k noX) (fun s' E' k => tt s' E' k noX) (fun s' E' k => te s' E' k noX) G (wipeD s (own.map (·.2))) ds E1 fun ys E2 => newL m ys E2 fun d E3 => i < s.length ∧ D'.nx (s.set i (some d)) E3) D'.x)) :=
  PS.imp (PS.fz (ps_setLc hc hN hy hyl hsw hi B.ok B.g B.t B.e (fold_no hs))) fun D σ H ⟨s, E, D', hS, he, h, ok⟩ => by
    have key := lc_read (T := T) (W := W) (tI := tI) (g := g) (tt := tt) (te := te) (m := m) (L := L) (own := own.map (·.2)) B.L (σ := σ) (H := H) (Q := fun v H' => D.nx (σ.set i (some v)) H')
      ⟨s, E, fun d E3 => i < s.length ∧ D'.nx (s.set i (some d)) E3, D'.x, hS, he, h, fun d E1 v H1 s1 he1 hd1 h1 => ok.nx _ _ _ _ s1 ((hS.grow s1.g).set hd1 i) he1 h1.2, ok.x⟩
    have mono : ∀ {Q Q' : VK}, (∀ v H, Q v H → Q' v H) → tLc (LI T W tI) (LG T W0 L g) (LT T W0 tt) (LE T W0 te) (own.map (·.2)) σ H Q → tLc (LI T W tI) (LG T W0 L g) (LT T W0 tt) (LE T W0 te) (own.map (·.2)) σ H Q' := fun {Q Q'} hq z => by
      obtain ⟨s, E, q, x, a1, a2, a3, a4, a5⟩ := z
      refine ⟨s, E, q, x, a1, a2, a3, fun ds G E' J H' b1 b2 b3 b4 Dl hD => ?_, a5⟩
      obtain ⟨Wm, w0, turn⟩ := a4 ds G E' J H' b1 b2 b3 b4 Dl hD
      exact ⟨Wm, w0, fun i m H hw => (turn i m H hw).elim (fun ⟨c1, c2⟩ => .inl ⟨c1, hq _ _ c2⟩) .inr⟩
    refine mono (fun v H' hq => ?_) key
    rcases hq with hq | ⟨p, vs, rfl, hp, hq⟩
    · exact .inl hq
    · exact .inr ⟨p, vs, hp, hq⟩
end
end DL

set_option Elab.async false
set_option linter.all false
set_option maxRecDepth 100000
namespace DL
open PySem L2 PySem.Spec PyProof.Rows

section
variable {X : Cx} {T : Tb} {W : WX} {e tg iter c : Expr} {a b body rest : List Stmt} {st : Stmt} {pos pos' : Pos} {tI : TID} {g : TGD} {tt : TTD} {te : TD} {L : List Nat} {ta tb : TSD}
theorem LS.go {t : TSD} {σ : L2.St} {H : Hp} {D : Ends} {s : SD} {E : En} {D' : EndD} (hs : RS T H s σ) (he : RE T H E) (h : t D' s E) (ok : EOk T W E H D' D) : LS T W t D σ H := ⟨s, E, D', hs, he, h, ok⟩
theorem dss_nil : DSs X T W [] (fun D' s E => D'.nx s E) := PSs.imp pss_nil fun D σ H ⟨s, E, D', hs, he, h, ok⟩ => ok.nx _ _ _ _ (.refl _ _) hs he h
theorem dss_cons (h1 : DS X T W st ta) (h2 : DSs X T W rest tb) : DSs X T W (st :: rest) (fun D' s E => ta { D' with nx := fun s1 E1 => tb D' s1 E1 } s E) :=
  PSs.imp (pss_cons h1 h2) fun D σ H ⟨s, E, D', hs, he, h, ok⟩ => LS.go hs he h ⟨fun s1 E1 σ1 H1 s1' rs re h1 => LS.go rs re h1 (ok.step s1'), ok.rt, ok.x⟩
theorem ds_pass : DS X T W (.Pass pos) (fun D' s E => D'.nx s E) := PS.imp ps_pass fun D σ H ⟨s, E, D', hs, he, h, ok⟩ => ok.nx _ _ _ _ (.refl _ _) hs he h
theorem ds_exp (he : DE X T W e te) (hn : noComp e = true) : DS X T W (.Expr e pos) (fun D' s E => te s E (fun _ E1 => D'.nx s E1) D'.x) :=
  PS.imp (ps_expr he (swap_no hn)) fun D σ H ⟨s, E, D', hs, hE, h, ok⟩ => LE.go hs hE h ok.x fun d E1 v H1 s1 he1 _ h1 => ok.nx _ _ _ _ s1 (hs.grow s1.g) he1 h1
theorem ds_ret (he : DE X T W e te) : DS X T W (.Return (some e) pos) (fun D' s E => te s E D'.rt D'.x) :=
  PS.imp (ps_ret he) fun D σ H ⟨s, E, D', hs, hE, h, ok⟩ => LE.go hs hE h ok.x fun d E1 v H1 s1 he1 hd1 h1 => ok.rt _ _ _ _ s1 he1 hd1 h1
theorem ds_retn : DS X T W (.Return none pos) (fun D' s E => D'.rt .non E) :=
  PS.imp ps_retN fun D σ H ⟨s, E, D', hs, hE, h, ok⟩ => ok.rt _ _ _ _ (.refl _ _) hE (rd_non.mpr rfl) h
theorem ds_if (hc : DT X T W c tt) (ha : DSs X T W a ta) (hb : DSs X T W b tb) : DS X T W (.If c a b pos) (fun D' s E => tt s E (fun k E1 => if k = true then ta D' s E1 else tb D' s E1) D'.x) :=
  PS.imp (ps_if hc ha hb) fun D σ H ⟨s, E, D', hs, hE, h, ok⟩ => LT.go hs hE h ok.x fun k E1 H1 s1 he1 h1 => by
    cases k with
    | true => rw [if_pos rfl] at h1 ⊢; exact LS.go (hs.grow s1.g) he1 h1 (ok.step s1)
    | false => rw [if_neg Bool.false_ne_true] at h1 ⊢; exact LS.go (hs.grow s1.g) he1 h1 (ok.step s1)
theorem ds_for (hp : PassesOwn (model X.prog X.w) X.A X.env X.xe) (hc : X.calm = true) (hi : PI X tg iter (LI T W tI)) (hg : PG X tg (LG T W L g)) (hb : DSs X T W body tb) (hn : noSet iter = true) :
    DS X T W (.For tg iter body [] pos) (fun D' s E => tI s E (fun ds G E1 => wFor (fun d s' E' k => g d s' E' k D'.x) tb G D' ds s E1) D'.x) := by
  refine PS.imp (ps_for hp hc hi hg hb (fold_no hn)) fun D σ H ⟨s, E, D', hs, hE, h, ok⟩ => ⟨s, E, _, D'.x, hs, hE, h, fun ds G E1 J H1 s1 he1 wk h1 => ?_, ok.x⟩
  refine ⟨fun i n σ2 H2 => i ≤ ds.length ∧ n = ds.length - i ∧ ∃ s2 E2, Stp E1 H1 E2 H2 ∧ RS T H2 s2 σ2 ∧ RE T H2 E2 ∧ wFor (fun d s' E' k => g d s' E' k D'.x) tb G D' (ds.drop i) s2 E2, ?_, ?_⟩
  · exact ⟨ds.length, Nat.zero_le _, rfl, s, E1, .refl _ _, hs.grow s1.g, he1, h1⟩
  · rintro i n σ2 H2 ⟨hi, hn, s2, E2, st2, rs2, re2, hw⟩
    have t2 := s1.trans st2
    cases e : ds.drop i with
    | nil =>
      have hl : ds.length ≤ i := by simpa using e
      rw [e] at hw
      exact .inl ⟨(wk E2 H2 i st2.g re2 hw.1).2 hl, ok.nx _ _ _ _ t2 rs2 re2 hw.2⟩
    | cons d rest =>
      have hd : ds[i]? = some d := by
        have := congrArg List.head? e
        rw [List.head?_drop] at this
        exact this
      have hlt : i < ds.length := (List.getElem?_eq_some_iff.mp hd).1
      have er : ds.drop (i + 1) = rest := by
        have := congrArg List.tail e
        rw [List.tail_drop] at this
        exact this
      rw [e] at hw
      obtain ⟨hG, hw⟩ := hw
      obtain ⟨hgo, hy⟩ := (wk E2 H2 i st2.g re2 hG).1 d hd
      refine .inr ⟨hgo, fun σ3 H3 => ∃ s3 E3, Stp E1 H1 E3 H3 ∧ RS T H3 s3 σ3 ∧ RE T H3 E3 ∧ wFor (fun d s' E' k => g d s' E' k D'.x) tb G D' rest s3 E3, ?_, ?_⟩
      · rintro σ3 H3 ⟨s3, E3, k1, k2, k3, k4⟩
        exact ⟨ds.length - (i + 1), by omega, by omega, rfl, s3, E3, k1, k2, k3, by rw [er]; exact k4⟩
      · intro xv H3 hyl
        obtain ⟨st3, he3, hx3⟩ := hy xv H3 hyl
        have t3 := t2.trans st3
        refine ⟨d, s2, E2, _, D'.x, rs2.grow st3.g, he3, hx3, hw, fun s4 E4 σ4 H4 st4 df rs4 re4 h4 => LS.go rs4 re4 h4 ⟨fun s5 E5 σ5 H5 st5 rs5 re5 ⟨E6, le, h5⟩ => ?_, fun d E' v H' st5 => ok.rt d E' v H' ((t3.trans st4).trans st5), ok.x.step (t3.trans st4)⟩, ok.x.step t3⟩
        exact ⟨s5, E6, (((st2.trans st3).trans st4).trans st5).le le, rs5, re5.le le, h5⟩
theorem ds_whl (hp : PassesOwn (model X.prog X.w) X.A X.env X.xe) (hc : DT X T W c tt) (hb : DSs X T W body tb) :
    DS X T W (.While c body [] pos) (fun D' s E => ∃ n, wWhl (fun s' E' k => tt s' E' k D'.x) tb D' n s E) := by
  refine PS.imp (ps_while hp hc hb) fun D σ H ⟨s, E, D', hs, hE, ⟨n, h⟩, ok⟩ => ?_
  refine ⟨fun n σ2 H2 => ∃ s2 E2, Stp E H E2 H2 ∧ RS T H2 s2 σ2 ∧ RE T H2 E2 ∧ wWhl (fun s' E' k => tt s' E' k D'.x) tb D' n s2 E2, ⟨n, s, E, .refl _ _, hs, hE, h⟩, ?_⟩
  rintro n σ2 H2 ⟨s2, E2, st2, rs2, re2, hw⟩
  cases n with
  | zero => exact hw.elim
  | succ n =>
    refine LT.go rs2 re2 hw (ok.x.step st2) fun k E3 H3 st3 re3 h3 => ?_
    have t3 := st2.trans st3
    cases k with
    | true =>
      rw [if_pos rfl] at h3 ⊢
      refine ⟨fun σ4 H4 => ∃ s4 E4, Stp E H E4 H4 ∧ RS T H4 s4 σ4 ∧ RE T H4 E4 ∧ wWhl (fun s' E' k => tt s' E' k D'.x) tb D' n s4 E4, fun σ4 H4 h4 => ⟨n, Nat.lt_succ_self n, h4⟩, ?_⟩
      exact LS.go (rs2.grow st3.g) re3 h3 ⟨fun s5 E5 σ5 H5 st5 rs5 re5 ⟨E6, le, h5⟩ => ⟨s5, E6, (t3.trans st5).le le, rs5, re5.le le, h5⟩, fun d E' v H' st5 => ok.rt d E' v H' (t3.trans st5), ok.x.step t3⟩
    | false =>
      rw [if_neg Bool.false_ne_true] at h3 ⊢
      exact ok.nx _ _ _ _ t3 (rs2.grow st3.g) re3 h3
/-- o[i] = e, (a, b) = e -/
theorem ds_asg (he : DE X T W e te) (hg : PG X tg (LG T W L g)) (hs : swapsWithSole [tg] e pos.line X.env = pure false) (hw : swappedStores [tg] e X.env = pure none) (hp : plainE tg = true) :
    DS X T W (.Assign [tg] e pos) (fun D' s E => te s E (fun d E1 => g d s E1 D'.nx D'.x) D'.x) :=
  PS.imp (ps_asg he hg hs hw (by rw [asg_cons hp]; rfl)) fun D σ H ⟨s, E, D', hS, hE, h, ok⟩ => LE.go hS hE h ok.x fun d E1 v H1 s1 he1 hd1 h1 =>
    ⟨d, s, E1, D'.nx, D'.x, hS.grow s1.g, he1, hd1, h1, fun s2 E2 σ2 H2 st2 _ rs re h2 => ok.nx _ _ _ _ (s1.trans st2) rs re h2, ok.x.step s1⟩
theorem ds_set {i : Nat} {x : Str} (hN : X.N.Nodup) (hi : X.N[i]? = some x) (hx : Loc X.env.scope x) (he : DE X T W e te) (hs : swapsWith e (some (.Name x pos')) pos.line X.env = pure false) (hf : X.fn x = true ∨ X.env.scope.names.lookup x = some .local) :
    DS X T W (.Assign [.Name x pos'] e pos) (fun D' s E => te s E (fun d E1 => i < s.length ∧ D'.nx (s.set i (some d)) E1) D'.x) :=
  PS.imp (ps_set hN hi hx he hs hf) fun D σ H ⟨s, E, D', hS, hE, h, ok⟩ => LE.go hS hE h ok.x fun d E1 v H1 s1 he1 hd1 h1 => ok.nx _ _ _ _ s1 ((hS.grow s1.g).set hd1 i) he1 h1.2
theorem aug_ok (hK : X.K = T.K) (op : Bop) (h : op = .add ∨ op = .sub) : OpR X (inplaceOp (bop op)) (Lo T fun x y E q => augR op E x y q) := by
  refine OpR.by fun v w H Q ⟨x, y, E, q, he, hx, hy, h, post⟩ => ?_
  dsimp only at h
  cases op with
  | add =>
    cases x with
    | int i =>
      obtain ⟨j, e, h⟩ := asI_inv (show asI y _ from h)
      subst e
      rw [rd_int] at hx hy; subst hx hy
      exact ⟨_, iop_add, i, j, rfl, rfl, fin_same he (rd_int.mpr rfl) h post⟩
    | str i =>
      obtain ⟨j, e, h1, hh⟩ := asS_inv (show asS y _ from h)
      subst e
      rw [rd_str] at hx hy; subst hx hy
      exact ⟨_, iop_add_str, toS i, toS j, rfl, rfl, by rw [toS_len, toS_len, sizeLine_eq]; exact h1, fin_same he (rd_str.mpr (congrArg V.str (toS_app i j))) hh post⟩
    | ref a =>
      have h0 : asC E (.ref a) fun _ xs => asL E y fun ys => xs.length + ys.length ≤ 16777216 ∧ q (.ref a) (E.set a (.lst (xs ++ ys))) := h
      obtain ⟨a', xs, e, ea, hA⟩ := asC_inv h0
      cases e
      obtain ⟨ys, e2, h1, hB⟩ := asL_inv hA
      rw [rd_ref] at hx; subst hx
      obtain ⟨b, vs, rfl, hb, hr⟩ := lv_ok he hy e2
      obtain ⟨us, z, r⟩ := he a _ ea
      have hm := he.mut ea
      exact ⟨_, iop_extF hK, a, b, us, vs, rfl, rfl, z, hb, by rw [r.length, hr.length, sizeLine_eq]; exact h1, post _ _ _ _ (.put hm ea) (he.setL hm (r.append hr)) (rd_ref.mpr rfl) hB⟩
    | non => exact h.elim
    | bl _ => exact h.elim
    | tup _ => exact h.elim
    | lst _ => exact h.elim
  | sub =>
    obtain ⟨i, e1, h⟩ := asI_inv (show asI x _ from h)
    obtain ⟨j, e2, h⟩ := asI_inv h
    subst e1 e2
    rw [rd_int] at hx hy; subst hx hy
    exact ⟨_, iop_sub, i, j, rfl, rfl, fin_same he (rd_int.mpr rfl) h post⟩
  | mul => exact h.elim
  | mod => exact h.elim
  | fdiv => exact h.elim
  | pow => exact h.elim
theorem ds_aug (hK : X.K = T.K) {i : Nat} {x : Str} {op : Bop} (hop : op = .add ∨ op = .sub) (hN : X.N.Nodup) (hi : X.N[i]? = some x) (hx : Loc X.env.scope x) (he : DE X T W e te) (hf : X.fn x = true ∨ X.env.scope.names.lookup x = some .local) :
    DS X T W (.AugAssign (.Name x pos') (bop op) e pos) (fun D' s E => i < s.length ∧ getv s i fun d => te s E (fun d2 E1 => augR op E1 d d2 fun d3 E2 => D'.nx (s.set i (some d3)) E2) D'.x) :=
  PS.imp (ps_aug (ti := Lo T fun x y E q => augR op E x y q) hN hi hx he (aug_ok hK op hop) hf) fun D σ H ⟨s, E, D', hS, hE, ⟨_, h⟩, ok⟩ => by
    obtain ⟨d, e1, h⟩ := getv_inv h
    obtain ⟨v, e2, hv⟩ := hS.2 i d e1
    exact ⟨v, e2, LE.go hS hE h ok.x fun d2 E1 w H1 s1 he1 hd1 h1 => ⟨d, d2, E1, _, he1, hv.grow s1.g, hd1, h1, fun d3 E2 z H2 s2 he2 hd2 h2 => ok.nx _ _ _ _ (s1.trans s2) ((hS.grow (s1.trans s2).g).set hd2 i) he2 h2⟩⟩
theorem ds_rse {C : Addr} {n : Nat} (hc : X.calm = true) (tk : Takes X W) (he : PMk X e (fun _ H Q => Q (.ref C) none H)) (hC : T.cl n = C) : DS X T W (.Raise (some e) none pos) (fun D' s E => D'.x n s E) :=
  PS.imp (ps_raise hc tk he) fun D σ H ⟨s, E, D', hS, hE, h, ok⟩ => by
    subst hC
    exact ok.x n s E σ H (.refl _ _) hS hE h
end
end DL

set_option Elab.async false
set_option linter.all false
set_option maxRecDepth 100000
set_option maxHeartbeats 4000000
namespace DL
open PySem L2 PySem.Spec PyProof.Rows

/-! # sorted: texts, tuples that begin with texts (no two the same) -/
/-- the key of a value -/
def kv (h : Heap) : Value → List Nat
  | .str x _ => x.cps.toList
  | .ref a => match h.get? a with
    | some o => match o.data with
      | .seq xs _ => match (xs[0]? : Option Value) with
        | some (Value.str x _) => x.cps.toList
        | _ => []
      | _ => []
    | none => []
  | _ => []
theorem swo_kv (k : Value → List Nat) : SrtO.Swo fun v u => decide (k v < k u) := by
  refine ⟨fun x y h => ?_, fun x y z h1 h2 => ?_⟩
  · simp only [decide_eq_true_eq] at h
    exact decide_eq_false fun q => List.lt_irrefl _ (List.lt_trans h q)
  · simp only [decide_eq_false_iff_not] at h1 h2 ⊢
    intro q
    by_cases h : k z < k y
    · exact h2 h
    · exact h1 (List.lt_of_le_of_lt (List.not_lt.mp h) q)
inductive All2 {α β : Type} (R : α → β → Prop) : List α → List β → Prop
  | nil : All2 R [] []
  | cons {a : α} {b : β} {as : List α} {bs : List β} : R a b → All2 R as bs → All2 R (a :: as) (b :: bs)
section
variable {α β : Type} {R : α → β → Prop}
theorem All2.mem {as : List α} {bs : List β} (h : All2 R as bs) : ∀ b ∈ bs, ∃ a ∈ as, R a b := by
  induction h with
  | nil => intro b hb; cases hb
  | cons r _ ih =>
    intro b hb
    rcases List.mem_cons.mp hb with e | hb
    · subst e; exact ⟨_, List.mem_cons_self, r⟩
    · obtain ⟨a, ha, q⟩ := ih b hb; exact ⟨a, List.mem_cons_of_mem _ ha, q⟩
theorem All2.mem2 {as : List α} {bs : List β} (h : All2 R as bs) : ∀ a ∈ as, ∃ b, b ∈ bs ∧ R a b := by
  induction h with
  | nil => intro b hb; cases hb
  | cons r _ ih =>
    intro b hb
    rcases List.mem_cons.mp hb with e | hb
    · subst e; exact ⟨_, List.mem_cons_self, r⟩
    · obtain ⟨a, ha, q⟩ := ih b hb; exact ⟨a, List.mem_cons_of_mem _ ha, q⟩
theorem All2.perm {bs cs : List β} (p : bs.Perm cs) : ∀ {as : List α}, All2 R as bs → ∃ as', as'.Perm as ∧ All2 R as' cs := by
  induction p with
  | nil => intro as h; exact ⟨as, .refl _, h⟩
  | cons x _ ih =>
    intro as h
    cases h with
    | cons r h => obtain ⟨as', p, q⟩ := ih h; exact ⟨_ :: as', p.cons _, .cons r q⟩
  | swap x y l =>
    intro as h
    cases h with
    | cons r h => cases h with
      | cons r2 h => exact ⟨_ :: _ :: _, List.Perm.swap _ _ _, .cons r2 (.cons r h)⟩
  | trans _ _ ih1 ih2 =>
    intro as h
    obtain ⟨a1, p1, q1⟩ := ih1 h
    obtain ⟨a2, p2, q2⟩ := ih2 q1
    exact ⟨a2, p2.trans p1, q2⟩
theorem All2.map_eq {γ : Type} {f : α → γ} {g : β → γ} {as : List α} {bs : List β} (h : All2 R as bs) (e : ∀ a b, R a b → f a = g b) : as.map f = bs.map g := by
  induction h with
  | nil => rfl
  | cons r _ ih => rw [List.map_cons, List.map_cons, e _ _ r, ih]
theorem All2.pairwise {S : α → α → Prop} {S' : β → β → Prop} {as : List α} {bs : List β} (h : All2 R as bs) (hs : ∀ a b a' b', R a b → R a' b' → S' b b' → S a a') (p : bs.Pairwise S') : as.Pairwise S := by
  induction h with
  | nil => exact .nil
  | cons r h ih =>
    obtain ⟨p1, p2⟩ := List.pairwise_cons.mp p
    refine List.pairwise_cons.mpr ⟨fun a' ha' => ?_, ih p2⟩
    obtain ⟨b', hb', q⟩ := h.mem2 a' ha'
    exact hs _ _ _ _ r q (p1 b' hb')
end
theorem inj_of_nodup {α β : Type} {f : α → β} : ∀ {l : List α}, (l.map f).Nodup → ∀ x ∈ l, ∀ y ∈ l, f x = f y → x = y
  | [], _, x, hx, _, _, _ => by cases hx
  | a :: l, h, x, hx, y, hy, e => by
    rw [List.map_cons, List.nodup_cons] at h
    rcases List.mem_cons.mp hx with ex | hx <;> rcases List.mem_cons.mp hy with ey | hy
    · rw [ex, ey]
    · exact (h.1 (List.mem_map.mpr ⟨y, hy, by rw [← e, ex]⟩)).elim
    · exact (h.1 (List.mem_map.mpr ⟨x, hx, by rw [e, ey]⟩)).elim
    · exact inj_of_nodup h.2 x hx y hy e
section
variable {prog : Program} {w : World} {A : Around} {E : Value → Shared → Prop} {s : Shared}
theorem eqBool_self {v : Value} {Q : Bool → Shared → Prop} (h : Q true s) : wpAny (model prog w) A (eqBool v v) Q E s := by
  unfold eqBool
  refine wpAny_holding ?_
  rw [if_pos (beq_self_eq_true v)]
  exact wpAny_bind (wpAny_rule (wpAny_pure h))
theorem lex_self {b fin : Bool} {Q : Bool → Shared → Prop} (h : Q fin s) : ∀ (l : List Value) (i : Nat), PySem.W.KatLex prog w A b fin Q (l.zip l) i s
  | [], _ => PySem.W.kat_nil h
  | v :: l, i => by
    rw [List.zip_cons_cons]
    exact PySem.W.kat_cons (eqBool_self (PySem.W.kat_yes (lex_self h l (i + 1))))
/-- a tuple that begins with a text -/
def TT (h : Heap) (u : Value) (k : List Nat) : Prop := ∃ a o x t rest n, u = .ref a ∧ h.get? a = some o ∧ o.cls = .type "tuple" ∧ o.data = .seq (Value.str x t :: rest).toArray n ∧ x.cps.toList = k
theorem tt_key {h : Heap} {u : Value} {k : List Nat} (q : TT h u k) : kv h u = k := by
  obtain ⟨a, o, x, t, rest, n, rfl, e, _, d, rfl⟩ := q
  unfold kv
  simp only [e, d]
  rfl
theorem TT.keeps {h h' : Heap} {u : Value} {k : List Nat} (q : TT h u k) (kp : ∀ b o, h.get? b = some o → o.cls = .type "tuple" → h'.get? b = some o) : TT h' u k := by
  obtain ⟨a, o, x, t, rest, n, e1, e, c, d, e2⟩ := q
  exact ⟨a, o, x, t, rest, n, e1, kp _ _ e c, c, d, e2⟩
theorem tt_sortable {a : Addr} {vs : List Value} {k : Value → List Nat} (h0 : 0 < vs.length) (hp : ∀ v ∈ vs, TT s.heap v (k v)) (hn : (vs.map k).Nodup) (ha : ∀ o, s.heap.get? a = some o → o.cls ≠ .type "tuple") :
    SrtO.SortableO prog w A s a vs fun v u => decide (k v < k u) := by
  intro h' keep
  have hp' : ∀ v ∈ vs, TT h' v (k v) := fun v hm => (hp v hm).keeps fun b o e c => keep b o (fun z => by subst z; exact ha o e c) e
  refine ⟨tuples' true, fun Q E hq => ?_, fun p q hm hm' => ?_⟩
  · have firsts : ∀ (l : List Value), (∀ v ∈ l, TT h' v (k v)) → ∃ fs, PySem.W.KatTups h' l fs ∧ fs.length = l.length ∧ ∀ f ∈ fs, ∃ x t, f = Value.str x t := by
      intro l
      induction l with
      | nil => intro _; exact ⟨[], .nil, rfl, fun f hf => by cases hf⟩
      | cons v l ih =>
        intro hl
        obtain ⟨fs, h1, h2, h3⟩ := ih fun u hu => hl u (List.mem_cons_of_mem _ hu)
        obtain ⟨b, o, x, t, rest, n, e1, e, c, d, _⟩ := hl v List.mem_cons_self
        subst e1
        exact ⟨.str x t :: fs, .cons e c d rfl h1, by rw [List.length_cons, List.length_cons, h2], fun f hf => by
          rcases List.mem_cons.mp hf with e | hf
          · exact ⟨x, t, e⟩
          · exact h3 f hf⟩
    obtain ⟨fs, h1, h2, h3⟩ := firsts vs hp'
    refine PySem.W.kat_kind (T := .type "str") h1 (by omega) (fun f hm => ?_) (by rfl) ?_
    · obtain ⟨x, t, rfl⟩ := h3 f hm
      exact PySem.W.Looks.now
    · have e : (Value.type "str" != Value.type "tuple") = true := by first | decide +kernel | rfl | decide
      rw [e]
      exact hq
  · show wpAny (model prog w) A (keyLt' (tuples' true) p.1 q.1) (fun r s' => s' = { s with heap := h' } ∧ r = decide (k p.1 < k q.1)) (fun _ _ => False) { s with heap := h' }
    have h1 := hp' _ hm
    have h2 := hp' _ hm'
    by_cases ek : k p.1 = k q.1
    · have e := inj_of_nodup hn _ hm _ hm' ek
      rw [← e]
      obtain ⟨b, o, x, t, rest, n, e1, e2, c, d, _⟩ := h1
      rw [e1]
      refine PySem.W.kat_lt e2 d e2 d (lex_self ?_ _ 0)
      exact ⟨rfl, by rw [decide_eq_false (Nat.lt_irrefl _), decide_eq_false (List.lt_irrefl _)]⟩
    · obtain ⟨b, o, x, t, rest, n, e1, e2, c, d, ex⟩ := h1
      obtain ⟨b', o', x', t', rest', n', e1', e2', c', d', ex'⟩ := h2
      rw [← ex, ← ex']
      rw [← ex, ← ex'] at ek
      rw [e1, e1']
      refine PySem.W.kat_lt e2 d e2' d' ?_
      show PySem.W.KatLex prog w A true _ _ ((.str x t, .str x' t') :: (rest.zip rest')) 0 _
      refine PySem.W.kat_cons (SeqAt.EqAt.str_str x t x' t' prog w _ _ ?_)
      have e3 : (x == x') = false := by
        rw [beq_eq_false_iff_ne]
        intro z
        exact ek (by rw [z])
      rw [e3]
      exact PySem.W.kat_no (oneLt_str ⟨rfl, rfl⟩)
theorem st_sortable {a : Addr} {vs : List Value} {ss : List Str} (h2 : 2 ≤ vs.length) (hS : StrsAre vs ss) (h : Heap) :
    SrtO.SortableO prog w A s a vs fun v u => decide (kv h v < kv h u) := by
  intro h' keep
  refine ⟨oneType', fun Q E hq => ?_, fun p q hm hm' => ?_⟩
  · match vs, h2, hS with
    | v1 :: v2 :: r, _, hS => rw [keyKind_strs hS]; exact wpAny_pure hq
  · obtain ⟨x, t, e⟩ := hS.all _ hm
    obtain ⟨x', t', e'⟩ := hS.all _ hm'
    show wpAny (model prog w) A (keyLt' oneType' p.1 q.1) (fun r s' => s' = { s with heap := h' } ∧ r = decide (kv h p.1 < kv h q.1)) (fun _ _ => False) { s with heap := h' }
    rw [e, e', keyLt'_oneType]
    exact oneLt_str ⟨rfl, rfl⟩
end
section
variable {X : Cx} {T : Tb}
/-- an item and its value -/
def RU (T : Tb) (H : Hp) (h : Heap) (key : D → List Nat) (d : D) (u : Value) : Prop := (∃ v, RD T.K H d v ∧ RelV v u) ∧ kv h u = key d
theorem ru_back {H : Hp} {h : Heap} {key : D → List Nat} {ds : List D} {us : List Value} (a : All2 (RU T H h key) ds us) : ∃ vs, RDs T.K H ds vs ∧ Vals vs us := by
  induction a with
  | nil => exact ⟨[], .nil, .nil⟩
  | cons r _ ih =>
    obtain ⟨vs, h1, h2⟩ := ih
    obtain ⟨⟨v, a, b⟩, _⟩ := r
    exact ⟨v :: vs, .cons a h1, .cons b h2⟩
theorem ru_of {H : Hp} {h : Heap} {key : D → List Nat} : ∀ {ds : List D} {vs : List V} {us : List Value}, RDs T.K H ds vs → Vals vs us → (∀ d ∈ ds, ∀ v u, RD T.K H d v → RelV v u → kv h u = key d) → All2 (RU T H h key) ds us
  | [], _, _, hd, hv, _ => by unfold RDs at hd; subst hd; cases hv; exact .nil
  | d :: ds, _, _, hd, hv, hk => by
    unfold RDs at hd
    obtain ⟨v, r, rfl, h1, h2⟩ := hd
    cases hv with
    | cons a b => exact .cons ⟨⟨v, h1, a⟩, hk d List.mem_cons_self _ _ h1 a⟩ (ru_of h2 b fun d hd => hk d (List.mem_cons_of_mem _ hd))
theorem sorted_okD (hK : X.K = T.K) (m : Bool) : CallR X (.builtin "sorted") (L1 T fun ds E q => biR .sorted m E ds q) := by
  intro pins s σ H vs us Q I rv ⟨ds, E, q, he, hd, h, post⟩
  obtain ⟨x, rfl, h⟩ := one_inv (show one ds _ from h)
  obtain ⟨v, rfl, hx⟩ := rds_one hd
  obtain ⟨es, e, hz, ⟨key, hkey⟩, h⟩ := asL_inv h
  obtain ⟨a, ws, rfl, hs, hr⟩ := lv_ok he hx e
  obtain ⟨u, rfl, ru⟩ := vals1 rv
  cases (show u = Value.ref a from ru)
  obtain ⟨hz2, its, n, r, hl, hget⟩ := rdM hK I hs
  have hlen : its.length = es.length := by rw [← hl, hr.length]
  have isl : s.heap.IsList a its.toArray := ⟨_, hget, rfl, n, rfl⟩
  -- how it ends
  have fin : ∀ out : List Value, All2 (RU T H s.heap key) es its → SrtO.Srtd (fun v u => decide (kv s.heap v < kv s.heap u)) out → SrtO.Stb (fun v u => decide (kv s.heap v < kv s.heap u)) out its → (∀ b ∈ es, ∀ c ∈ es, decide (key b < key c) = false → (ltD E b c).getD false = false) →
      EP X pins σ Q (.ref (s.heap.objs.size + 1)) { s with heap := sortedAll s.heap its out.toArray } := fun out ha hsr hst hlt => by
    obtain ⟨es', p, ha'⟩ := ha.perm hst.perm.symm
    obtain ⟨ws', hd', hv'⟩ := ru_back ha'
    have hn := h es' p (ha'.pairwise (S' := fun x y => decide (kv s.heap y < kv s.heap x) = false) (S := fun b c => decide (key c < key b) = false) (fun a b a' b' r1 r2 z => by rw [← r1.2, ← r2.2]; exact z) hsr |>.imp_of_mem fun {b c} hb hc z => hlt c (p.mem_iff.mp hc) b (p.mem_iff.mp hb) z)
    obtain ⟨m0, hat⟩ := sortedAll_at s.heap its out.toArray
    have hfr : s.heap.objs.size ≤ s.heap.objs.size + 1 := Nat.le_succ _
    have J : Inv X pins σ (upd H (s.heap.objs.size + 1) (.lst ws')) { s with heap := sortedAll s.heap its out.toArray } :=
      I.laid (t' := s.toks) (fun b o e => sortedAll_old e) hfr ⟨by rw [hv'.length, hst.perm.length_eq, hlen, sizeLine_eq]; exact hz, out, m0, hv', hat⟩
    have key2 := newL_go he hd' hn post (s.heap.objs.size + 1) (I.hok.fresh hfr)
    exact EP.fz ⟨.ref (s.heap.objs.size + 1), _, J, rfl, key2⟩
  rcases hkey with hk | ⟨hk, hnd⟩
  · have ha : All2 (RU T H s.heap key) es its := ru_of hr r fun d hm v u h1 h2 => by
      rw [hk d hm, rd_str] at h1
      subst h1
      obtain ⟨t, rfl⟩ := h2
      rfl
    have hS : ∃ ss, StrsAre its ss := by
      refine ⟨its.map fun u => match u with | .str x _ => x | _ => default, ?_⟩
      have : ∀ u ∈ its, ∃ x t, u = Value.str x t := fun u hu => by
        obtain ⟨d, hm, ⟨v, h1, h2⟩, _⟩ := ha.mem u hu
        rw [hk d hm, rd_str] at h1
        subst h1
        obtain ⟨t, rfl⟩ := h2
        exact ⟨_, t, rfl⟩
      clear hget isl fin ha r hl hlen
      induction its with
      | nil => exact .nil
      | cons u its ih =>
        obtain ⟨x, t, rfl⟩ := this u List.mem_cons_self
        exact .cons x t (ih fun u hu => this u (List.mem_cons_of_mem _ hu))
    obtain ⟨ss, hS⟩ := hS
    refine SrtO.sorted_ord (swo_kv (kv s.heap)) isl (by rw [hlen, sizeLine_eq]; exact hz) (fun h2 h₁ a' _ _ => st_sortable h2 hS s.heap) fun out h1 h2 => ?_
    refine fin out ha h1 h2 fun b hb c hc z => ?_
    rw [hk b hb, hk c hc]
    exact z
  · have ha : All2 (RU T H s.heap key) es its := ru_of hr r fun d hm v u h1 h2 => by
      obtain ⟨rest, ed⟩ := hk d hm
      rw [ed] at h1
      unfold RD at h1
      obtain ⟨t, vs', rfl, hq, hr'⟩ := h1
      cases (show u = Value.ref t from h2)
      rw [← hK] at hq
      obtain ⟨its', rv', ⟨o, ho, hc, n', hd'⟩, _⟩ := I.tuple hq
      unfold RDs at hr'
      obtain ⟨v1, r1, rfl, h3, _⟩ := hr'
      rw [rd_str] at h3
      subst h3
      cases rv' with
      | cons a b =>
        obtain ⟨tk, rfl⟩ := a
        exact tt_key ⟨t, o, _, tk, _, n', rfl, ho, hc, hd', rfl⟩
    have htt : ∀ u ∈ its, TT s.heap u (kv s.heap u) := fun u hu => by
      obtain ⟨d, hm, ⟨v, h1, h2⟩, _⟩ := ha.mem u hu
      obtain ⟨rest, ed⟩ := hk d hm
      rw [ed] at h1
      unfold RD at h1
      obtain ⟨t, vs', rfl, hq, hr'⟩ := h1
      cases (show u = Value.ref t from h2)
      rw [← hK] at hq
      obtain ⟨its', rv', ⟨o, ho, hc, n', hd'⟩, _⟩ := I.tuple hq
      unfold RDs at hr'
      obtain ⟨v1, r1, rfl, h3, _⟩ := hr'
      rw [rd_str] at h3
      subst h3
      cases rv' with
      | cons a b =>
        obtain ⟨tk, rfl⟩ := a
        have q : TT s.heap (.ref t) (key d) := ⟨t, o, _, tk, _, n', rfl, ho, hc, hd', rfl⟩
        rw [tt_key q]
        exact q
    have hnd2 : (its.map (kv s.heap)).Nodup := by
      rw [← ha.map_eq (f := key) (g := kv s.heap) fun a b r => r.2.symm]
      exact hnd
    refine SrtO.sorted_ord (swo_kv (kv s.heap)) isl (by rw [hlen, sizeLine_eq]; exact hz) (fun h2 h₁ a' ha' kk => ?_) fun out h1 h2 => ?_
    · refine tt_sortable (s := { s with heap := h₁ }) (by omega) (fun v hm => (htt v hm).keeps fun b o e _ => (kk b o e).2) hnd2 fun o e => ?_
      have e' : some o = some (seqObj "list" its.toArray 0) := e.symm.trans ha'
      cases e'
      intro c
      exact absurd (Value.type.inj c) (by decide)
    · refine fin out ha h1 h2 fun b hb c hc z => ?_
      obtain ⟨r1, e1⟩ := hk b hb
      obtain ⟨r2, e2⟩ := hk c hc
      rw [e1, e2]
      show (if key b = key c then none else some (ltS (key b) (key c))).getD false = false
      by_cases ee : key b = key c
      · rw [if_pos ee]; rfl
      · rw [if_neg ee]; exact z
end
end DL

set_option Elab.async false
set_option linter.all false
set_option maxRecDepth 100000
set_option maxHeartbeats 4000000
namespace DL
open PySem L2 PySem.Spec PyProof.Rows

/-! # set(list of texts) -/
theorem ddS_len {α : Type} [DecidableEq α] (l : List α) (x : α) : (ddS l x).length ≤ l.length + 1 := by
  unfold ddS; split
  · omega
  · simp
theorem dd_take {α : Type} [DecidableEq α] {l : List α} {i : Nat} {x : α} (h : l[i]? = some x) : ddp (l.take (i + 1)) = ddS (ddp (l.take i)) x := by
  unfold ddp
  rw [List.take_add_one, h]
  simp
theorem dd_len {α : Type} [DecidableEq α] (l : List α) : ∀ i, (ddp (l.take i)).length ≤ i
  | 0 => by simp [ddp]
  | i + 1 => by
    cases h : l[i]? with
    | none =>
      have e : l.take (i + 1) = l.take i := by
        rw [List.take_add_one, h]; simp
      rw [e]; exact Nat.le_succ_of_le (dd_len l i)
    | some x =>
      rw [dd_take h]
      have := ddS_len (ddp (l.take i)) x
      have := dd_len l i
      omega
section
variable {prog : Program} {w : World} {A : Around} {R : Result → Shared → Prop} {I : Addr} {fp wr : List Addr} {G : Array GenState → Array GenState → Prop} {n : Nat} {P : Nat → Value → Prop} {St : Nat → Shared → Prop}
theorem set_loopS (W : WalksS prog w A.in1 I fp wr G n P St) (S : Addr) (hSf : S ∉ fp) (xs : List Str) (hsz : xs.length = n) (hn1 : n + 1 < scanBound)
    (hval : ∀ i v, P i v → ∃ t, v = .str (xs.getD i Str.empty) t) :
    ∀ (k i : Nat) (s : Shared), n - i = k → i ≤ n → St i s →
      s.heap.SetOf (PySem.strKind prog w) S (fun k' => decide (k' ∈ ddp (xs.take i))) (ddp (xs.take i)).length →
      (∀ s', Moved (S :: wr) G s s' → s'.heap.SetOf (PySem.strKind prog w) S (fun k' => decide (k' ∈ ddp xs)) (ddp xs).length → R (.ok (.ret .none)) s') →
      codeAny (model prog w) A (.builtin "set.update.loop" ⟨[.ref S, .ref I], []⟩) R s := by
  have hSw : S ∉ wr := fun h => hSf (W.sub _ h)
  have hsub : ∀ b ∈ wr, b ∈ S :: wr := fun b hb => List.mem_cons_of_mem _ hb
  intro k
  induction k with
  | zero =>
    intro i s hk hi hst hS hR
    have hin : i = n := by omega
    subst hin
    refine codeAny_builtin PyProof.Rows.F.entry_set_update_loop ?_
    rw [Around.under_plainId PyProof.Rows.F.plain_set_update_loop _]
    show wpAny _ A.in1 (pyNext (.ref I) >>= _) _ _ s
    refine wpAny_bind (W.done s _ _ hst fun s' hm => ?_)
    show wpAny _ A.in1 (ret Value.none) _ _ s'
    rw [List.take_of_length_le (by omega)] at hS
    exact wpAny_pure (hR s' (hm.mono hsub) (by
      obtain ⟨o, es, ep, t, ho, rest⟩ := hS
      exact ⟨o, es, ep, t, hm.heap S _ hSw ho, rest⟩))
  | succ k ih =>
    intro i s hk hi hst hS hR
    have hlt : i < n := by omega
    refine codeAny_builtin PyProof.Rows.F.entry_set_update_loop ?_
    rw [Around.under_plainId PyProof.Rows.F.plain_set_update_loop _]
    show wpAny _ A.in1 (pyNext (.ref I) >>= _) _ _ s
    refine wpAny_bind (W.item i s _ _ hlt hst fun v s' hP hst' hm => ?_)
    obtain ⟨t, rfl⟩ := hval i v hP
    have hx : xs[i]? = some (xs.getD i Str.empty) := by
      rw [List.getD_eq_getElem?_getD, List.getElem?_eq_getElem (by omega)]; rfl
    have hS' : s'.heap.SetOf (PySem.strKind prog w) S (fun k' => decide (k' ∈ ddp (xs.take i))) (ddp (xs.take i)).length := by
      obtain ⟨o, es, ep, tb, ho, rest⟩ := hS
      exact ⟨o, es, ep, tb, hm.heap S _ hSw ho, rest⟩
    generalize xs.getD i Str.empty = z at hx ⊢
    show wpAny _ A.in1 (holding [Value.str z t] (setAdd S (.str z t)) >>= _) _ _ s'
    refine wpAny_bind (wpAny_holding ?_)
    unfold setAdd
    refine wpAny_holding ?_
    refine wpAny_bind ((PySem.strKind prog w).pyHash (k := z) (strKind_is _ _ _ _) ?_)
    refine wpAny_setAddHashed_of (knd := PySem.strKind prog w) (s := { s' with toks := s'.toks + 1 }) (strKind_is _ _ _ _) rfl hS' (by have := dd_len xs i; omega) fun h' hsb hS2 => ?_
    have hSi : h'.SetOf (PySem.strKind prog w) S (fun k' => decide (k' ∈ ddp (xs.take (i + 1)))) (ddp (xs.take (i + 1))).length := by
      rw [dd_take hx]
      refine SetOf_congr hS2 (fun k' => ?_) ?_
      · unfold ddS
        by_cases hm : z ∈ ddp (xs.take i)
        · rw [if_pos hm]
          by_cases e : k' = z
          · subst e; simp [hm]
          · simp [e]
        · rw [if_neg hm]
          by_cases e : k' = z
          · subst e; simp
          · simp [e]
      · unfold ddS
        by_cases hm : z ∈ ddp (xs.take i)
        · simp [hm]
        · simp [hm]
    refine wpAny_pure ⟨plainId_quiet PyProof.Rows.F.plain_set_update_loop _, ih (i + 1) _ (by omega) hlt (W.frame _ s' _ _ hst' (Nat.le_succ _) fun b hb o e => ?_) hSi fun s'' hm'' hS'' => ?_⟩
    · rw [hsb.2 b (fun h : b = S => hSf (by rw [← h]; exact hb))]; exact e
    · refine hR s'' (Moved.trans W.gtrans ((hm.mono hsub).then_heap (Nat.le_succ _) fun b o hb e => ?_) hm'') hS''
      rw [hsb.2 b (fun h : b = S => hb (by rw [h]; exact List.mem_cons_self))]; exact e
end
section
variable {prog : Program} {w : World} {A : Around} {E : Value → Shared → Prop} {s : Shared}
theorem call_set_strs {l : Addr} {items : Array Value} {xs : List Str} {Q : Value → Shared → Prop}
    (hh : A.handled = none) (hl : s.heap.IsList l items) (hi : PyProof.Rows.StrsAre items.toList xs) (hn1 : xs.length + 1 < scanBound)
    (h : ∀ (h' : Heap) (tk : Nat), h'.SetOf (PySem.strKind prog w) s.heap.objs.size (fun k' => decide (k' ∈ ddp xs)) (ddp xs).length →
      (∀ b o, b < s.heap.objs.size → s.heap.get? b = some o → h'.get? b = some o) → Q (.ref s.heap.objs.size) { s with heap := h', toks := tk }) :
    wpAny (model prog w) A (call (.type "set") [.ref l]) Q E s := by
  obtain ⟨c, tl, hmro⟩ := PySem.F.called_set.mro
  have hmade := PySem.F.called_set.made
  have hsub := PySem.F.called_set.sub
  refine wpAny_call (codeAny_of_tree ?_)
  show wpAny _ _ (callAny (.type "set") _) _ _ _
  refine wpAny_pure ⟨Code.quiet_builtin _ (by decide +kernel), codeAny_builtin PySem.F.entry_type_call ?_⟩
  rw [Around.under_plain (weight_type_call_type "set" [.ref l] []) rfl]
  have h1 := PySem.F.called_set.notType
  have h2 := PySem.F.called_set.canCreate
  have hct := PySem.F.typeCall_set_1 (.ref l)
  repeat (any_goals (first | assumption | wp_step))
  refine codeAny_mono (code_set_new_1 (.ref l) (E := E) (Q₁ := fun obj s₁ => ∃ led : Bool, obj = .ref s.heap.objs.size ∧ s₁ = { s with heap := s.heap.push { cls := .type "set", dict := none, data := .set #[] 0 (.fresh 0 0 led) } }) fun led => ⟨led, rfl, rfl⟩) fun r s₁ hr => ?_
  cases r with
  | error e => exact hr
  | ok fl =>
    cases fl with
    | ret obj =>
      obtain ⟨led, rfl, rfl⟩ := hr
      have hS : (s.heap.push { cls := .type "set", dict := none, data := .set #[] 0 (.fresh 0 0 led) }).get? s.heap.objs.size = some { cls := .type "set", dict := none, data := .set #[] 0 (.fresh 0 0 led) } := Heap.get?_push_size _ rfl
      have hT : Shared.TypeIs { s with heap := s.heap.push { cls := .type "set", dict := none, data := .set #[] 0 (.fresh 0 0 led) } } (.ref s.heap.objs.size) "set" := ⟨_, hS, rfl⟩
      have hli := PySem.F.called_set.init.lookup
      have hbi := PySem.F.called_set.init.bind (.ref s.heap.objs.size)
      repeat (any_goals (first | assumption | wp_step))
      refine codeAny_mono (codeAny_call_builtin (R := wants (fun r s₂ => r = .none ∧ ∃ h' tk, s₂ = { s with heap := h', toks := tk } ∧
          h'.SetOf (PySem.strKind prog w) s.heap.objs.size (fun k' => decide (k' ∈ ddp xs)) (ddp xs).length ∧
          (∀ b o, b < s.heap.objs.size → s.heap.get? b = some o → h'.get? b = some o)) E) PySem.F.called_set.init.plain PySem.F.entry_set_init (check_set_init_1 hT ?_)) fun r₂ s₂ hr₂ => ?_
      · obtain ⟨ol, hol, hcl, nl, hdl⟩ := hl
        obtain ⟨ocls, odict, odata, oslots⟩ := ol
        simp only at hcl hdl
        subst hcl; subst hdl
        have hol' : (s.heap.push { cls := .type "set", dict := none, data := .set #[] 0 (.fresh 0 0 led) }).get? l = some { cls := .type "list", dict := odict, data := .seq items nl, slots := oslots } := Heap.get?_push_of_some _ hol
        have hsls := PySem.F.sub_list_set
        have hslf := PySem.F.sub_list_frozenset
        have hne : (Value.type "list" == Value.type "dict") = false := by decide
        have hl1 : (s.heap.push { cls := .type "set", dict := none, data := .set #[] 0 (.fresh 0 0 led) }).IsList l items := ⟨_, hol', rfl, nl, rfl⟩
        unfold Builtin.«set.__init__» noKeywords Builtin.Frozenset.updateFrom
        generalize hPI : pyIter = PI
        wp_walk
        subst hPI
        refine wpAny_pyIter_list hl1 ?_
        refine wpAny_bind (wpAny_runValue ?_)
        have hlS : l < s.heap.objs.size := Heap.lt_size hol
        have hh3 : A.in1.in1.in1.handled = none := by simp [hh]
        have hneI : l ≠ (s.heap.push { cls := .type "set", dict := none, data := .set #[] 0 (.fresh 0 0 led) }).objs.size := by
          rw [Heap.size_push]; exact Nat.ne_of_lt (Nat.lt_succ_of_lt hlS)
        have hSf : s.heap.objs.size ∉ [(s.heap.push { cls := .type "set", dict := none, data := .set #[] 0 (.fresh 0 0 led) }).objs.size, l] := by
          rw [Heap.size_push]; simp only [List.mem_cons, List.mem_singleton, List.not_mem_nil, or_false, not_or]
          exact ⟨Nat.ne_of_lt (Nat.lt_succ_self _), Nat.ne_of_gt hlS⟩
        have hsz : xs.length = items.size := by rw [← StrsAre.len_eq hi, Array.length_toList]
        have hval : ∀ (i : Nat) (v : Value), items[i]? = some v → ∃ t, v = .str (xs.getD i Str.empty) t := fun i v hv => SS.strs_at hi i v (by rw [Array.getElem?_toList]; exact hv)
        refine set_loopS ((Walks.list hh3 _ l hneI items).toS) s.heap.objs.size
          hSf xs hsz (by rw [← hsz]; exact hn1) hval (items.size - 0) 0 _ (by omega) (Nat.zero_le _)
          ⟨⟨_, Heap.get?_push_size _ rfl, rfl, rfl⟩, (hl1.push _)⟩ ?hS0 ?hR
        case hS0 =>
          have hget : ((s.heap.push { cls := .type "set", dict := none, data := .set #[] 0 (.fresh 0 0 led) }).push { cls := .type "list_iterator", data := .fields #[.ref l, .int 0 0] }).get? s.heap.objs.size
              = some { cls := .type "set", dict := none, data := .set #[] 0 (.fresh 0 0 led) } := Heap.get?_push_of_some _ hS
          exact PyProof.Rows.SetOf_congr ((PyProof.Rows.setObjOf_fresh (knd := PySem.strKind prog w) led).setOf hget (by unfold scanBound; omega)) (fun _ => by simp [ddp]) (by simp [ddp])
        case hR =>
          intro s' hm hS'
          obtain ⟨h', g', d', tk', os'⟩ := s'
          have eg : g' = s.gens := hm.gens
          have ed : d' = s.drawn := hm.drawn
          have eo : os' = s.os := hm.os
          subst eg; subst ed; subst eo
          show wpAny _ _ _ _ _ _
          refine wpAny_pure ?_
          show wpAny _ _ (ret Value.none) _ _ _
          refine wpAny_pure ⟨rfl, h', tk', rfl, hS', fun b o hb e => ?_⟩
          have hb1 : b ≠ s.heap.objs.size := Nat.ne_of_lt hb
          have hb2 : b ≠ (s.heap.push { cls := .type "set", dict := none, data := .set #[] 0 (.fresh 0 0 led) }).objs.size := by
            rw [Heap.size_push]; exact Nat.ne_of_lt (Nat.lt_succ_of_lt hb)
          exact hm.heap b o (by simp only [List.mem_cons, List.mem_singleton, List.not_mem_nil, or_false, not_or]; exact ⟨hb1, hb2⟩) (Heap.get?_push_of_some _ (Heap.get?_push_of_some _ e))
      · cases r₂ with
        | error e => exact hr₂
        | ok fl₂ =>
          cases fl₂ with
          | ret r =>
            obtain ⟨rfl, h', tk, rfl, hS', hk'⟩ := hr₂
            repeat (any_goals (first | assumption | wp_step))
            exact h _ _ hS' hk'
          | _ => exact hr₂.elim
    | _ => exact hr.elim
end
section
variable {X : Cx} {T : Tb} {W : WX} {ta : TD}
theorem dd_map {α β : Type} [DecidableEq α] [DecidableEq β] {f : α → β} (hf : ∀ x y, f x = f y → x = y) (l : List α) : ddp (l.map f) = (ddp l).map f := by
  have key : ∀ (l acc : List α), (l.map f).foldl ddS (acc.map f) = (l.foldl ddS acc).map f := by
    intro l
    induction l with
    | nil => intro acc; rfl
    | cons x l ih =>
      intro acc
      rw [List.map_cons, List.foldl_cons, List.foldl_cons, ← ih]
      congr 1
      unfold ddS
      by_cases hm : x ∈ acc
      · rw [if_pos hm, if_pos (List.mem_map_of_mem hm)]
      · rw [if_neg hm, if_neg (fun z => hm (by obtain ⟨y, hy, e⟩ := List.mem_map.mp z; rw [← hf _ _ e]; exact hy))]
        simp
  exact key l []
/-- len(set(xs)) -/
theorem de_lenset (hK : X.K = T.K) {a : Expr} {p p2 q pos : Pos} (hc : X.calm = true) (hg : Gl X "len") (hm : X.mg "len" = none) (hg2 : Gl X "set") (hm2 : X.mg "set" = none) (ha : DE X T W a ta) (hp : plainE a = true) :
    DE X T W (.Call (.Name "len" p) [.Call (.Name "set" p2) [a] [] q] [] pos) (fun s E q x => ta s E (fun d E1 => asL E1 d fun xs => opt (asStrs xs) fun ys => ys.length < 4000 ∧ q (.int (ddp ys).length) E1) x) := by
  refine ⟨fun pins s σ H Q I ⟨sd, E, q, x, hs, he, h, post, hx⟩ => ?_⟩
  have na := star_cons (es := []) (env := X.env) hp
  refine Call_ (ld_blt I hg hm boot_len ?_)
  refine PyProof.Rows.callWith_builtin1 (PyProof.Rows.args_cons ?_ rfl) rfl rfl
  refine Call_ (ld_blt I hg2 hm2 boot_set ?_)
  refine PyProof.Rows.callWith_type1 (PyProof.Rows.args_cons (thn (ha.run pins s σ H (fun v H1 => ∃ d E1, Stp E H E1 H1 ∧ RE T H1 E1 ∧ RD T.K H1 d v ∧ asL E1 d fun xs => opt (asStrs xs) fun ys => ys.length < 4000 ∧ q (.int (ddp ys).length) E1) I (LE.go hs he h hx fun d E1 v H1 s1 he1 hd1 h1 => ⟨d, E1, s1, he1, hd1, h1⟩)) fun v s1 ⟨y, H1, I1, r1, q1⟩ => PyProof.Rows.args_nil ?_) na) na rfl
  obtain ⟨d, E1, st1, he1, hd1, h1⟩ := q1
  obtain ⟨xs, e1, h1⟩ := asL_inv h1
  obtain ⟨ys, e2, hl, h1⟩ := opt_inv h1
  obtain ⟨a', vs, rfl, hsq, hr⟩ := lv_ok he1 hd1 e1
  cases r1
  obtain ⟨hz, its, n, r, hlen, hget⟩ := rdM hK I1 hsq
  have ev := strs_ok hr e2
  subst ev
  have isl : s1.heap.IsList a' its.toArray := ⟨_, hget, rfl, n, rfl⟩
  refine call_set_strs (I1.ok.hd hc) isl (xs := ys.map toS) (by simpa using strsAre_of r) (by rw [List.length_map]; unfold scanBound; omega) fun h' tk hS hk => ?_
  refine PyProof.Rows.args_nil ?_
  have hdd : (ddp (ys.map toS)).length = (ddp ys).length := by
    rw [dd_map (fun x y e => toS_inj.mp e), List.length_map]
  have hdl : (ddp ys).length ≤ ys.length := by
    have := dd_len ys ys.length
    rwa [List.take_length] at this
  rw [hdd] at hS
  obtain ⟨o, es, ep, t, ho, hex, hd, _, _, _, hf, hn⟩ := hS
  have I2 : Inv X pins σ H1 { s1 with heap := h', toks := tk } := I1.kept fun b o e => hk b o (Heap.lt_size e) e
  exact call_len_set ho hex hd hf (by rw [hn]; omega) ⟨.int (ddp ys).length, H1, I2.tok _, ⟨_, by rw [hn]⟩, post _ _ _ _ st1 he1 (rd_int.mpr rfl) h1⟩
end
end DL

set_option Elab.async false
set_option linter.all false
set_option maxRecDepth 100000
namespace DL
open PySem L2 PySem.Spec PyProof.Rows

/-! # the program's tables, the names of a block -/
structure Pg where
  gn : Nat → Str
  G : Nat → Option D
  fnm : Nat → Str
  F : Nat → Option Fn
  xn : Nat → Str
  nx : Nat
structure Sx where
  N : List Str
  names : List (Str × NameKind)
  cel : List Str
def blts : List Str := ["len", "all", "any", "abs", "max", "min", "int", "str", "repr", "sorted", "list", "tuple", "isinstance", "range", "set", "bool", "dict"]
structure PFk (T : Tb) (P : Pg) (k : Nat) (prog : Program) (w : World) (K : PySem.W.Frag) (mg : Str → Option Value) (base : Heap) : Prop where
  glo : ∀ g d, P.G g = some d → ∃ v u, mg (P.gn g) = some u ∧ RelV v u ∧ ∀ H, RD T.K H d v
  free : ∀ x ∈ blts, mg x = none
  func : ∀ f fn, P.F f = some fn → ∃ a fd ps, mg (P.fnm f) = some (.ref a) ∧ PySem.W.keepIn K (.ref a) = true ∧ Binds K fd ps [] ∧ FnG prog w K mg base k a fd ps (spD T (wC P.G P.F k f))
  exc : ∀ n, n < P.nx → ∃ B newId initId bmB, ExcBaseFacts B newId initId bmB ∧ PySem.W.excIn K (T.cl n) bmB newId = true ∧ mg (P.xn n) = some (.ref (T.cl n)) ∧ PySem.W.keepIn K (.ref (T.cl n)) = true ∧
    PySem.W.subIn K (.ref (T.cl n)) (.type "BaseException") = some true ∧ PySem.W.typeIn K (.ref (T.cl n)) = some (.type "type")
abbrev PFit (T : Tb) (P : Pg) (k : Nat) (X : Cx) : Prop := PFk T P k X.prog X.w X.K X.mg X.base
structure Fit (T : Tb) (P : Pg) (k : Nat) (c : Sx) (X : Cx) (W : WX) : Prop where
  hK : X.K = T.K
  N : X.N = c.N
  names : X.env.scope.names = c.names
  kind : X.env.scope.kind = .function
  nd : X.N.Nodup
  calm : X.calm = true
  room : Room k X.A
  gd : X.A.guards = some []
  tk : Takes X W
  cel : ∀ x ∈ c.cel, X.fn x = true
  pf : PFit T P k X
/-! # the names -/
def visB (c : Sx) (x : Str) : Bool := match c.names.lookup x with
  | some .local => true
  | some .cell => true
  | some .free => true
  | _ => false
def glB (c : Sx) (x : Str) : Bool := match c.names.lookup x with
  | some .globalImplicit => true
  | _ => false
def stB (c : Sx) (x : Str) : Bool := match c.names.lookup x with
  | some .local => true
  | some .cell => decide (x ∈ c.cel)
  | _ => false
def dbg (x : Str) : Bool := x == ("__debug__" : Str)
def atB (c : Sx) (i : Nat) (x : Str) : Bool := decide (c.N[i]? = some x)
def Sx.blk (c : Sx) (sc : Scope) : Sx where
  N := c.N
  names := sc.names.map fun (n, k) => if (k == .free && c.names.lookup n == some .cell) then (n, .cell) else (n, k)
  cel := (sc.names.filter fun p => p.2 == .cell).map (·.1)
def ownL (c : Sx) (own : List Nat) : List (Str × Nat) := own.map fun i => (c.N.getD i default, i)
def blkB (c : Sx) (sc : Scope) (own : List Nat) : Bool :=
  decide (sc.kind = .function) && sc.names.all (fun y => decide (sc.names.lookup y.1 = some y.2)) && own.all (fun i => decide (i < c.N.length)) &&
  sc.names.all (fun y => !(y.2 == .free) || decide (c.names.lookup y.1 = some .cell) || decide (c.names.lookup y.1 = some .free)) &&
  sc.names.all (fun y => !(y.2 == .local || y.2 == .cell) || decide (y.1 ∈ (ownL c own).map (·.1)) || decide (y.1 ∉ c.N)) &&
  ((sc.names.filter fun p => p.2 == .cell).map (·.1)).all fun x => decide (sc.names.lookup x = some .cell)
section
variable {T : Tb} {P : Pg} {k : Nat} {c : Sx} {X : Cx} {W : WX} {x : Str} {i : Nat}
theorem Fit.vis (F : Fit T P k c X W) (h : visB c x = true) : Vis X.env.scope x := by
  unfold visB at h
  unfold Vis
  rw [F.names]
  split at h
  · rename_i e; exact .inl e
  · rename_i e; exact .inr (.inl e)
  · rename_i e; exact .inr (.inr e)
  · cases h
theorem Fit.gl (F : Fit T P k c X W) (h : glB c x = true) : Gl X x := by
  unfold glB at h
  show X.env.scope.names.lookup x = _
  rw [F.names]
  split at h
  · rename_i e; exact e
  · cases h
theorem Fit.st (F : Fit T P k c X W) (h : stB c x = true) : L2.Loc X.env.scope x ∧ (X.fn x = true ∨ X.env.scope.names.lookup x = some .local) := by
  unfold stB at h
  unfold L2.Loc
  rw [F.names]
  split at h
  · rename_i e; exact ⟨.inl e, .inr e⟩
  · rename_i e; exact ⟨.inr e, .inl (F.cel x (of_decide_eq_true h))⟩
  · cases h
theorem Fit.at (F : Fit T P k c X W) (h : atB c i x = true) : X.N[i]? = some x := by rw [F.N]; exact of_decide_eq_true h
theorem ownL_snd (own : List Nat) : (ownL c own).map (·.2) = own := by
  unfold ownL
  rw [List.map_map]
  exact List.map_id _
theorem Fit.blkOk (F : Fit T P k c X W) {sc : Scope} {own : List Nat} (h : blkB c sc own = true) : BlkOk X.N X.env.scope sc (ownL c own) := by
  unfold blkB at h
  simp only [Bool.and_eq_true, List.all_eq_true, decide_eq_true_eq] at h
  obtain ⟨⟨⟨⟨⟨h1, h2⟩, h3⟩, h4⟩, h5⟩, _⟩ := h
  refine ⟨h1, h2, fun p hp => ?_, fun y hy e => ?_, fun y hy e => ?_⟩
  · obtain ⟨i, hi, rfl⟩ := List.mem_map.mp hp
    have := h3 i hi
    rw [F.N]
    show c.N[i]? = some (c.N.getD i default)
    rw [List.getElem?_eq_getElem this, List.getD_eq_getElem?_getD, List.getElem?_eq_getElem this]
    rfl
  · rw [F.names]
    have := h4 y hy
    rw [e] at this
    simpa using this
  · rw [F.N]
    have := h5 y hy
    rcases e with e | e <;> (rw [e] at this; simpa using this)
theorem Fit.blk (F : Fit T P k c X W) {sc : Scope} {own : List Nat} (h : blkB c sc own = true) (s : Shared) (H : Hp) (C : Addr) (cl : List (Str × Addr)) (fp : List Addr) :
    Fit T P k (c.blk sc) (X.blk s H sc (compEnvC sc cl C X.env) fp) W0 := by
  have ok := F.blkOk h
  unfold blkB at h
  simp only [Bool.and_eq_true, List.all_eq_true, decide_eq_true_eq] at h
  obtain ⟨_, h6⟩ := h
  refine ⟨F.hK, F.N, ?_, ok.kind, F.nd, F.calm, F.room, F.gd, fun u s' ⟨a, B, sI, pins, σ, H, cls, d, e, I, nb, up, sky, na, os, ag, w⟩ => w, fun x hx => ?_, F.pf⟩
  · show (sc.names.map fun (n, k) => if (k == NameKind.free && X.env.scope.kind == ScopeKind.function && X.env.scope.names.lookup n == some NameKind.cell) then (n, NameKind.cell) else (n, k)) = _
    unfold Sx.blk
    rw [F.kind, F.names]
    refine List.map_congr_left fun ⟨n, k⟩ _ => ?_
    simp
  · show (sc.names.lookup x == some .cell) = true
    rw [h6 x hx]
    rfl
end
/-! # the checker -/
def bltE : Bi → Str
  | .len => "len" | .all => "all" | .any => "any" | .abs => "abs" | .max2 => "max" | .min2 => "min" | .int => "int" | .str => "str" | .repr => "repr" | .sorted => "sorted" | .list => "list" | .tuple => "tuple"
/-- those whose rule is here -/
def biOn : Bi → Bool
  | .tuple => false | _ => true
def bmE : Bm → Str
  | .append => "append" | .pop1 => "pop" | .clear => "clear" | .join => "join" | .split => "split" | .endswith => "endswith" | .index => "index" | .count => "count" | .strip => "strip" | .extend => "extend"
def bmOn : Bm → Bool
  | .append => true | .pop1 => true | .clear => true | .join => true | .split => true | .endswith => true | _ => false
mutual
def tgN : Tg → List Nat
  | .nm i => [i]
  | .tup ts => tgNs ts
  | .sub _ _ => []
def tgNs : Tgs → List Nat
  | .nil => []
  | .cons t ts => tgN t ++ tgNs ts
end
def tyE : Ty → Str
  | .int => "int" | .bool => "bool" | .str => "str" | .list => "list" | .tuple => "tuple" | .dict => "dict"
section
variable (P : Pg)
mutual
def chkE (c : Sx) : Ex → Expr → Bool
  | .var i, e => match e with
    | .Name x _ => atB c i x && visB c x && !dbg x && !(x == ("__classdict__" : Str))
    | _ => false
  | .glb g, e => match e with
    | .Name x _ => decide (x = P.gn g) && glB c x && !dbg x
    | _ => false
  | .non, e => match e with
    | .Constant .none _ _ => true
    | _ => false
  | .bl b, e => match e with
    | .Constant (.bool b') _ _ => b == b'
    | _ => false
  | .int i, e => match e with
    | .Constant (.int j) _ _ => decide (i = j)
    | _ => false
  | .str z, e => match e with
    | .Constant (.str x) _ _ => decide (x.cps.toList = z)
    | _ => false
  | .tup es, e => match e with
    | .Tuple es' _ _ => chkA c es es'
    | _ => false
  | .lst _ es, e => match e with
    | .List es' _ => chkA c es es'
    | _ => false
  | .bin op _ a b, e => match e with
    | .BinOp a' op' b' _ => decide (op' = bop op) && chkE c a a' && chkE c b b'
    | _ => false
  | .neg a, e => match e with
    | .UnaryOp .USub a' _ => chkE c a a'
    | _ => false
  | .cmp op a b, e => match e with
    | .Compare a' [op'] [b'] _ => decide (op' = cop op) && noSet b' && chkE c a a' && chkE c b b'
    | _ => false
  | .chn op op2 a b d, e => match e with
    | .Compare a' [op', op2'] [b', d'] _ => decide (op' = cop op) && decide (op2' = cop op2) && noSet d' && chkE c a a' && chkE c b b' && chkE c d d'
    | _ => false
  | .and a b, e => match e with
    | .BoolOp .And [a', b'] _ => chkE c a a' && chkE c b b'
    | .BoolOp .And (a' :: b' :: d' :: r) p => chkE c a a' && chkE c b (.BoolOp .And (b' :: d' :: r) p)
    | _ => false
  | .or a b, e => match e with
    | .BoolOp .Or [a', b'] _ => chkE c a a' && chkE c b b'
    | .BoolOp .Or (a' :: b' :: d' :: r) p => chkE c a a' && chkE c b (.BoolOp .Or (b' :: d' :: r) p)
    | _ => false
  | .not a, e => match e with
    | .UnaryOp .Not a' _ => chkE c a a'
    | _ => false
  | .ite t a b, e => match e with
    | .IfExp t' a' b' _ => chkT c t t' && chkE c a a' && chkE c b b'
    | _ => false
  | .call f es, e => match e with
    | .Call (.Name x _) es' [] _ => decide (x = P.fnm f) && (P.F f).isSome && glB c x && !dbg x && chkA c es es'
    | _ => false
  | .bi b _ es, e => match e with
    | .Call (.Name x _) (e1 :: es') [] _ => biOn b && decide (x = bltE b) && glB c x && chkA c es (e1 :: es')
    | _ => false
  | .isi a t, e => match e with
    | .Call (.Name x _) [a', .Name y _] [] _ => decide (x = "isinstance") && decide (y = tyE t) && glB c x && glB c y && plainE a' && chkE c a a'
    | _ => false
  | .bm b _ o es, e => match e with
    | .Call (.Attribute o' nm apos) [] [] cpos => bmOn b && decide (nm = bmE b) && baseP o' && (apos.endLine == cpos.line) && chkE c o o' && chkA c es []
    | .Call (.Attribute o' nm apos) (e1 :: es') [] cpos => bmOn b && decide (nm = bmE b) && baseP o' && (apos.endLine == cpos.line) && decide (es'.length < 9) && chkE c o o' && chkA c es (e1 :: es')
    | _ => false
  | .ix a i, e => match e with
    | .Subscript a' i' _ => plainIx i' && chkE c a a' && chkE c i i'
    | _ => false
  | .sl _ a lo hi, e => match e with
    | .Subscript a' (.Slice lo' hi' none _) _ => chkE c a a' && chkO c lo lo' && chkO c hi hi'
    | _ => false
  | .rev _ a, e => match e with
    | .Subscript a' (.Slice none none (some (.UnaryOp .USub (.Constant (.int j) _ _) _)) _) _ => decide (j = 1) && chkE c a a'
    | _ => false
  | .lc _ own e t it cs, e' => match e' with
    | .ListComp e1 [⟨t1, it1, ifs, as⟩] scope _ => decide (as = 0) && blkB c scope own && chkI c it it1 && noSet it1 && chkG (c.blk scope) t t1 && decide (∀ i ∈ tgN t, i ∈ own) && chkB (c.blk scope) cs ifs && chkE (c.blk scope) e e1
    | _ => false
  | .lenset a, e => match e with
    | .Call (.Name x _) [.Call (.Name y _) [a'] [] _] [] _ => decide (x = "len") && decide (y = "set") && glB c x && glB c y && plainE a' && chkE c a a'
    | _ => false
  | .fz a, e => chkE c a e
def chkA (c : Sx) : Exs → List Expr → Bool
  | .nil, es => match es with
    | [] => true
    | _ => false
  | .cons e es, es' => match es' with
    | e' :: r => plainE e' && chkE c e e' && chkA c es r
    | [] => false
def chkO (c : Sx) : Exs → Option Expr → Bool
  | .nil, o => match o with
    | none => true
    | _ => false
  | .cons e es, o => match o with
    | some e' => chkE c e e' && chkA c es []
    | none => false
def chkT (c : Sx) : Tx → Expr → Bool
  | .val x, e => match e with
    | .Compare .. => (match x with | .cmp .. => true | .chn .. => true | _ => false) && chkE c x e
    | e => plainT e && chkE c x e
  | .and a b, e => match e with
    | .BoolOp .And [a', b'] _ => chkT c a a' && chkT c b b'
    | .BoolOp .And (a' :: b' :: d' :: r) p => chkT c a a' && chkT c b (.BoolOp .And (b' :: d' :: r) p)
    | _ => false
  | .or a b, e => match e with
    | .BoolOp .Or [a', b'] _ => chkT c a a' && chkT c b b'
    | .BoolOp .Or (a' :: b' :: d' :: r) p => chkT c a a' && chkT c b (.BoolOp .Or (b' :: d' :: r) p)
    | _ => false
  | .not a, e => match e with
    | .UnaryOp .Not a' _ => chkT c a a'
    | _ => false
def chkB (c : Sx) : Txs → List Expr → Bool
  | .nil, es => match es with
    | [] => true
    | _ => false
  | .one t, es => match es with
    | [e] => chkT c t e
    | _ => false
def chkI (c : Sx) : Iz → Expr → Bool
  | .seq x, e => chkE c x e
  | .rng1 a, e => match e with
    | .Call (.Name x _) [a'] [] _ => decide (x = "range") && glB c x && plainE a' && chkE c a a'
    | _ => false
  | .rng2 a b, e => match e with
    | .Call (.Name x _) [a', b'] [] _ => decide (x = "range") && glB c x && plainE a' && plainE b' && chkE c a a' && chkE c b b'
    | _ => false
def chkG (c : Sx) : Tg → Expr → Bool
  | .nm i, e => match e with
    | .Name x _ => atB c i x && stB c x
    | _ => false
  | .tup ts, e => match e with
    | .Tuple es _ _ => chkGs c ts es
    | _ => false
  | .sub o i, e => match e with
    | .Subscript o' i' _ => plainIx i' && chkE c o o' && chkE c i i'
    | _ => false
def chkGs (c : Sx) : Tgs → List Expr → Bool
  | .nil, es => match es with
    | [] => true
    | _ => false
  | .cons t ts, es => match es with
    | e :: r => plainE e && chkG c t e && chkGs c ts r
    | [] => false
end
end
end DL

set_option Elab.async false
set_option linter.all false
set_option maxRecDepth 100000
set_option maxHeartbeats 4000000
namespace DL
open PySem L2 PySem.Spec PyProof.Rows

theorem blt_boot (b : Bi) : bootBuiltins (bltE b) = some (match b with | .int => .type "int" | .str => .type "str" | .list => .type "list" | .tuple => .type "tuple" | .len => .builtin "len" | .all => .builtin "all" | .any => .builtin "any" | .abs => .builtin "abs" | .max2 => .builtin "max" | .min2 => .builtin "min" | .repr => .builtin "repr" | .sorted => .builtin "sorted") := by
  cases b <;> decide +kernel
theorem ty_boot (t : Ty) : bootBuiltins (tyE t) = some (.type (tyN t)) := by
  cases t <;> decide +kernel
theorem isi_boot : bootBuiltins ("isinstance" : Str) = some (.builtin "isinstance") := by decide +kernel
theorem blt_in (b : Bi) : bltE b ∈ blts := by cases b <;> decide +kernel
theorem ty_in (t : Ty) : tyE t ∈ blts := by cases t <;> decide +kernel
theorem isi_in : ("isinstance" : Str) ∈ blts := by decide +kernel
theorem set_in : ("set" : Str) ∈ blts := by decide +kernel
theorem rng_in : ("range" : Str) ∈ blts := by decide +kernel
theorem blts_ok : ∀ x ∈ blts, x ≠ ("__name__" : Str) ∧ (x == ("__debug__" : Str)) = false := by decide +kernel
theorem star_one {e : Expr} {es : List Expr} {env : Env} (h : plainE e = true) : starEach (e :: es) env = (false, eval e env) :: starEach es env := star_cons h
theorem few_ok {e1 : Expr} {es : List Expr} {cpos : Pos} {env : Env} (h : (e1 :: es).all plainE = true) (hl : es.length < 9) :
    ((backTo cpos (starEach (e1 :: es) env)).all (fun x => !x.1) && (backToKw cpos (keywordEach [] env)).all (fun x => x.1.isSome)
      && decide ((e1 :: es).length + ([] : List Keyword).length + (if ([] : List Keyword).isEmpty then 0 else 1) < 30)) = true := by
  rw [star_all h]
  have e2 : decide ((e1 :: es).length + ([] : List Keyword).length + (if ([] : List Keyword).isEmpty then 0 else 1) < 30) = true := by
    refine decide_eq_true ?_
    simp only [List.length_cons, List.length_nil, List.isEmpty_nil, if_true]
    omega
  rw [e2]
  rfl
theorem chkA_plain {P : Pg} {c : Sx} : ∀ {es : Exs} {es' : List Expr}, chkA P c es es' = true → es'.all plainE = true
  | .nil, [], _ => rfl
  | .nil, _ :: _, h => by unfold chkA at h; cases h
  | .cons e es, [], h => by unfold chkA at h; cases h
  | .cons e es, e' :: r, h => by
    unfold chkA at h
    simp only [Bool.and_eq_true] at h
    rw [List.all_cons, h.1.1, chkA_plain h.2]
    rfl
section
variable {T : Tb} {P : Pg} {k : Nat}
mutual
theorem E_ok : ∀ (i : Ex) {c : Sx} {X : Cx} {W : WX} {e : Expr}, Fit T P k c X W → chkE P c i e = true → DE X T W e (wE P.G (wC P.G P.F k) i)
  | .var i, c, X, W, e, F, h => by
    unfold chkE at h
    split at h
    · rename_i x pos
      simp only [Bool.and_eq_true, Bool.not_eq_true'] at h
      exact de_var (pe_var (F.at h.1.1.1) (F.vis h.1.1.2) h.1.2 h.2)
    · cases h
  | .glb g, c, X, W, e, F, h => by
    unfold chkE at h
    split at h
    · rename_i x pos
      simp only [Bool.and_eq_true, Bool.not_eq_true', decide_eq_true_eq] at h
      obtain ⟨⟨h1, h2⟩, h3⟩ := h
      subst h1
      refine ⟨fun pins s σ H Q I hq => ?_⟩
      obtain ⟨sd, E, q, xx, hs, he, hq, post, hx⟩ := hq
      obtain ⟨d, hd, hq⟩ := opt_inv (show opt (P.G g) fun d => q d E from hq)
      obtain ⟨v, u, hm, r, rd⟩ := F.pf.glo g d hd
      exact (pe_glob (F.gl h2) hm r h3).run pins s σ H Q I (post d E v H (.refl _ _) he (rd H) hq)
    · cases h
  | .non, c, X, W, e, F, h => by
    unfold chkE at h
    split at h
    · exact de_con pe_non fun _ => rd_non.mpr rfl
    · cases h
  | .bl b, c, X, W, e, F, h => by
    unfold chkE at h
    split at h
    · rename_i b' j pos
      have e1 : b = b' := by simpa using h
      subst e1
      exact de_con pe_bl fun _ => rd_bl.mpr rfl
    · cases h
  | .int i, c, X, W, e, F, h => by
    unfold chkE at h
    split at h
    · have e1 := of_decide_eq_true h
      subst e1
      exact de_con pe_int fun _ => rd_int.mpr rfl
    · cases h
  | .str z, c, X, W, e, F, h => by
    unfold chkE at h
    split at h
    · have e1 := of_decide_eq_true h
      subst e1
      exact de_con pe_str fun _ => rd_str.mpr rfl
    · cases h
  | .tup es, c, X, W, e, F, h => by
    unfold chkE at h
    split at h
    · exact de_tup (A_ok es F h)
    · cases h
  | .lst m es, c, X, W, e, F, h => by
    unfold chkE at h
    split at h
    · exact de_lst m (A_ok es F h)
    · cases h
  | .bin op m a b, c, X, W, e, F, h => by
    unfold chkE at h
    split at h
    · simp only [Bool.and_eq_true, decide_eq_true_eq] at h
      obtain ⟨⟨h1, h2⟩, h3⟩ := h
      subst h1
      exact de_bin (bop_ok F.hK op m) (E_ok a F h2) (E_ok b F h3)
    · cases h
  | .neg a, c, X, W, e, F, h => by
    unfold chkE at h
    split at h
    · exact de_neg (E_ok a F h)
    · cases h
  | .cmp op a b, c, X, W, e, F, h => by
    unfold chkE at h
    split at h
    · simp only [Bool.and_eq_true, decide_eq_true_eq] at h
      obtain ⟨⟨⟨h1, h2⟩, h3⟩, h4⟩ := h
      subst h1
      exact de_cmp (cmp_ok (by have := F.room.un; omega) F.hK op) (E_ok a F h3) (E_ok b F h4) h2
    · cases h
  | .chn op op2 a b d, c, X, W, e, F, h => by
    unfold chkE at h
    split at h
    · simp only [Bool.and_eq_true, decide_eq_true_eq] at h
      obtain ⟨⟨⟨⟨⟨h1, h2⟩, h3⟩, h4⟩, h5⟩, h6⟩ := h
      subst h1 h2
      exact de_chn (cmp_ok (by have := F.room.un; omega) F.hK op) (cmp_ok (by have := F.room.un; omega) F.hK op2) (E_ok a F h4) (E_ok b F h5) (E_ok d F h6) h3
    · cases h
  | .and a b, c, X, W, e, F, h => by
    unfold chkE at h
    split at h
    · simp only [Bool.and_eq_true] at h
      exact de_and (pe_and (E_ok a F h.1) (pe_one (E_ok b F h.2)))
    · simp only [Bool.and_eq_true] at h
      exact de_and (pe_and (E_ok a F h.1) (E_ok b F h.2))
    · cases h
  | .or a b, c, X, W, e, F, h => by
    unfold chkE at h
    split at h
    · simp only [Bool.and_eq_true] at h
      exact de_or (pe_or (E_ok a F h.1) (pe_one (E_ok b F h.2)))
    · simp only [Bool.and_eq_true] at h
      exact de_or (pe_or (E_ok a F h.1) (E_ok b F h.2))
    · cases h
  | .not a, c, X, W, e, F, h => by
    unfold chkE at h
    split at h
    · exact de_not (E_ok a F h)
    · cases h
  | .ite t a b, c, X, W, e, F, h => by
    unfold chkE at h
    split at h
    · simp only [Bool.and_eq_true] at h
      exact de_ite (T_ok t F h.1.1).1 (E_ok a F h.1.2) (E_ok b F h.2)
    · cases h
  | .call f es, c, X, W, e, F, h => by
    unfold chkE at h
    split at h
    · rename_i x p1 es' pos
      simp only [Bool.and_eq_true, decide_eq_true_eq, Bool.not_eq_true'] at h
      obtain ⟨⟨⟨⟨h1, h2⟩, h3⟩, h4⟩, h5⟩ := h
      subst h1
      obtain ⟨fn, hf⟩ := Option.isSome_iff_exists.mp h2
      obtain ⟨a, fd, ps, hm, hk, hb, hF⟩ := F.pf.func f fn hf
      have hA := A_ok es F h5
      have hp := chkA_plain h5
      cases es' with
      | nil =>
        refine de_fn (C := wC P.G P.F k f) (PE.imp (pe_callG0 hF F.gd F.room (F.gl h3) hm hk hb (passAt F.tk) h4) fun σ H Q hh => ?_)
        obtain ⟨s, E, q, x, hs, he, hh, post, hx⟩ := hh
        cases es with
        | nil => exact post [] E [] H (.refl _ _) he .nil hh
        | cons e es => unfold chkA at h5; cases h5
      | cons e1 es' =>
        rw [List.all_cons, Bool.and_eq_true] at hp
        exact de_fn (pe_callG hF F.gd F.room (F.gl h3) hm hk hb (passAt F.tk) hA h4 (star_cons hp.1) (star_any hp.2))
    · cases h
  | .bi b m es, c, X, W, e, F, h => by
    unfold chkE at h
    split at h
    · rename_i x p1 e1 es' pos
      simp only [Bool.and_eq_true, decide_eq_true_eq] at h
      obtain ⟨⟨⟨h1, h2⟩, h3⟩, h4⟩ := h
      subst h2
      have hA := A_ok es F h4
      have hp := chkA_plain h4
      rw [List.all_cons, Bool.and_eq_true] at hp
      have hn := blts_ok _ (blt_in b)
      have fr := F.pf.free _ (blt_in b)
      have hb := blt_boot b
      have hu := F.room.un
      cases b with
      | len => exact de_cb (pe_callB (len_ok F.hK m) (F.gl h3) fr hb hA hn.1 hn.2 (star_cons hp.1) (star_any hp.2))
      | all => exact de_cb (pe_callB (all_ok F.hK F.calm m) (F.gl h3) fr hb hA hn.1 hn.2 (star_cons hp.1) (star_any hp.2))
      | any => exact de_cb (pe_callB (any_ok F.hK F.calm m) (F.gl h3) fr hb hA hn.1 hn.2 (star_cons hp.1) (star_any hp.2))
      | abs => exact de_cb (pe_callB (abs_ok m) (F.gl h3) fr hb hA hn.1 hn.2 (star_cons hp.1) (star_any hp.2))
      | max2 => exact de_cb (pe_callB (max2_ok F.calm m) (F.gl h3) fr hb hA hn.1 hn.2 (star_cons hp.1) (star_any hp.2))
      | min2 => exact de_cb (pe_callB (min2_ok F.calm m) (F.gl h3) fr hb hA hn.1 hn.2 (star_cons hp.1) (star_any hp.2))
      | int => exact de_cb (pe_callTy (int_ok m) (F.gl h3) fr hb hA hn.1 hn.2 (star_cons hp.1) (star_any hp.2))
      | str => exact de_cb (pe_callTy (str_ok m) (F.gl h3) fr hb hA hn.1 hn.2 (star_cons hp.1) (star_any hp.2))
      | list => exact de_cb (pe_callTy (list_ok F.hK m) (F.gl h3) fr hb hA hn.1 hn.2 (star_cons hp.1) (star_any hp.2))
      | repr => exact de_cb (pe_callB (repr_ok F.hK F.gd (by omega) m) (F.gl h3) fr hb hA hn.1 hn.2 (star_cons hp.1) (star_any hp.2))
      | sorted => exact de_cb (pe_callB (sorted_okD F.hK m) (F.gl h3) fr hb hA hn.1 hn.2 (star_cons hp.1) (star_any hp.2))
      | tuple => cases h1
    · cases h
  | .isi a t, c, X, W, e, F, h => by
    unfold chkE at h
    split at h
    · rename_i x p1 a' y p2 pos
      simp only [Bool.and_eq_true, decide_eq_true_eq] at h
      obtain ⟨⟨⟨⟨⟨h1, h2⟩, h3⟩, h4⟩, h5⟩, h6⟩ := h
      subst h1 h2
      have hn := blts_ok _ isi_in
      have hn2 := blts_ok _ (ty_in t)
      have hy : PE X (.Name (tyE t) p2) (tC (.ty (tyN t))) := pe_bltn (F.gl h4) (F.pf.free _ (ty_in t)) (ty_boot t) rfl hn2.1 hn2.2
      exact de_isi (pe_callB (isi_ok F.hK t) (F.gl h3) (F.pf.free _ isi_in) isi_boot (pa_cons (E_ok a F h6) (pa_cons hy pa_nil rfl) (star_cons h5)) hn.1 hn.2 (star_cons h5) rfl)
    · cases h
  | .bm b m o es, c, X, W, e, F, h => by
    unfold chkE at h
    have hl : ∀ {b : Bm}, (b ≠ .join ∧ b ≠ .split ∧ b ≠ .endswith ∧ b ≠ .strip) → ∀ {E : En} {H : Hp} {d : D} {v : V} {p : Prop}, RE T H E → RD T.K H d v → bmT b E d p → p ∧ tyV X.K "list" v H := @fun b hb E H d v p he hd hh => ⟨(bmT_ok (X := X) F.hK he hd hh).1, (bmT_ok (X := X) F.hK he hd hh).2.2 hb⟩
    have hs : ∀ {b : Bm}, (b = .join ∨ b = .split ∨ b = .endswith ∨ b = .strip) → ∀ {E : En} {H : Hp} {d : D} {v : V} {p : Prop}, RE T H E → RD T.K H d v → bmT b E d p → p ∧ tyV X.K "str" v H := @fun b hb E H d v p he hd hh => ⟨(bmT_ok (X := X) F.hK he hd hh).1, (bmT_ok (X := X) F.hK he hd hh).2.1 hb⟩
    split at h
    · rename_i o' nm apos cpos
      simp only [Bool.and_eq_true, decide_eq_true_eq] at h
      obtain ⟨⟨⟨⟨⟨h1, h2⟩, h3⟩, h4⟩, h5⟩, h6⟩ := h
      subst h2
      cases es with
      | cons e es => unfold chkA at h6; cases h6
      | nil =>
        have ho := E_ok o F h5
        cases b with
        | append => exact de_bm0 (hl (by decide)) (pe_bm0 PySem.F.plainAttrs_list PySem.F.slot_list_append PySem.F.type_list_append (append_ok m) ho (base_plain h3) h4)
        | pop1 => exact de_bm0 (hl (by decide)) (pe_bm0 PySem.F.plainAttrs_list PySem.F.slot_list_pop PySem.F.type_list_pop (pop_ok m) ho (base_plain h3) h4)
        | clear => exact de_bm0 (hl (by decide)) (pe_bm0 PySem.F.plainAttrs_list PySem.F.slot_list_clear PySem.F.type_list_clear (clear_ok m) ho (base_plain h3) h4)
        | join => exact de_bm0 (hs (by decide)) (pe_bm0 PySem.F.plainAttrs_str PySem.F.slot_str_join PySem.F.type_str_join (join_ok F.hK m) ho (base_plain h3) h4)
        | split => exact de_bm0 (hs (by decide)) (pe_bm0 PySem.F.plainAttrs_str PySem.F.slot_str_split PySem.F.type_str_split (split_ok m) ho (base_plain h3) h4)
        | endswith => exact de_bm0 (hs (by decide)) (pe_bm0 PySem.F.plainAttrs_str PySem.F.slot_str_endswith PySem.F.type_str_endswith (ends_ok m) ho (base_plain h3) h4)
        | index => cases h1
        | count => cases h1
        | strip => cases h1
        | extend => cases h1
    · rename_i o' nm apos e1 es' cpos
      simp only [Bool.and_eq_true, decide_eq_true_eq] at h
      obtain ⟨⟨⟨⟨⟨⟨h1, h2⟩, h3⟩, h4⟩, h5⟩, h6⟩, h7⟩ := h
      subst h2
      have ho := E_ok o F h6
      have hA := A_ok es F h7
      have hp := chkA_plain h7
      have hfew := few_ok (cpos := cpos) (env := X.env) hp h5
      rw [List.all_cons, Bool.and_eq_true] at hp
      cases b with
      | append => exact de_bm (hl (by decide)) (pe_bm PySem.F.plainAttrs_list PySem.F.slot_list_append PySem.F.type_list_append (append_ok m) ho hA (base_plain h3) hfew h4 (star_cons hp.1) (star_any hp.2))
      | pop1 => exact de_bm (hl (by decide)) (pe_bm PySem.F.plainAttrs_list PySem.F.slot_list_pop PySem.F.type_list_pop (pop_ok m) ho hA (base_plain h3) hfew h4 (star_cons hp.1) (star_any hp.2))
      | clear => exact de_bm (hl (by decide)) (pe_bm PySem.F.plainAttrs_list PySem.F.slot_list_clear PySem.F.type_list_clear (clear_ok m) ho hA (base_plain h3) hfew h4 (star_cons hp.1) (star_any hp.2))
      | join => exact de_bm (hs (by decide)) (pe_bm PySem.F.plainAttrs_str PySem.F.slot_str_join PySem.F.type_str_join (join_ok F.hK m) ho hA (base_plain h3) hfew h4 (star_cons hp.1) (star_any hp.2))
      | split => exact de_bm (hs (by decide)) (pe_bm PySem.F.plainAttrs_str PySem.F.slot_str_split PySem.F.type_str_split (split_ok m) ho hA (base_plain h3) hfew h4 (star_cons hp.1) (star_any hp.2))
      | endswith => exact de_bm (hs (by decide)) (pe_bm PySem.F.plainAttrs_str PySem.F.slot_str_endswith PySem.F.type_str_endswith (ends_ok m) ho hA (base_plain h3) hfew h4 (star_cons hp.1) (star_any hp.2))
      | index => cases h1
      | count => cases h1
      | strip => cases h1
      | extend => cases h1
    · cases h
  | .ix a i, c, X, W, e, F, h => by
    unfold chkE at h
    split at h
    · simp only [Bool.and_eq_true] at h
      exact de_ix F.hK (E_ok a F h.1.2) (E_ok i F h.2) h.1.1
    · cases h
  | .sl m a lo hi, c, X, W, e, F, h => by
    unfold chkE at h
    split at h
    · simp only [Bool.and_eq_true] at h
      exact de_sl F.hK m (E_ok a F h.1.1) (O_ok lo F h.1.2) (O_ok hi F h.2)
    · cases h
  | .rev m a, c, X, W, e, F, h => by
    unfold chkE at h
    split at h
    · simp only [Bool.and_eq_true, decide_eq_true_eq] at h
      obtain ⟨h1, h2⟩ := h
      subst h1
      exact de_rev F.hK m (E_ok a F h2)
    · cases h
  | .lc m own e t it cs, c, X, W, e', F, h => by
    unfold chkE at h
    split at h
    · rename_i e1 t1 it1 ifs as scope pos
      simp only [Bool.and_eq_true, decide_eq_true_eq] at h
      obtain ⟨⟨⟨⟨⟨⟨⟨h1, h2⟩, h3⟩, h4⟩, h5⟩, h6⟩, h7⟩, h8⟩ := h
      subst h1
      have B : Blk X T scope (ownL c own) t1 e1 ifs (wG P.G (wC P.G P.F k) t) (wB P.G (wC P.G P.F k) cs) (wE P.G (wC P.G P.F k) e) (tgN t) :=
        ⟨F.blkOk h2, fun s H C cl fp => G_ok t (F.blk h2 s H C cl fp) h5, fun s H C cl fp => B_ok cs (F.blk h2 s H C cl fp) h7, fun s H C cl fp => E_ok e (F.blk h2 s H C cl fp) h8, fun i hi => by rw [ownL_snd]; exact h6 i hi⟩
      have := de_lc (m := m) (pos := pos) F.calm F.nd (I_ok it (tg := t1) F h3) B h4
      rw [ownL_snd] at this
      exact this
    · cases h
  | .lenset a, c, X, W, e, F, h => by
    unfold chkE at h
    split at h
    · simp only [Bool.and_eq_true, decide_eq_true_eq] at h
      obtain ⟨⟨⟨⟨⟨h1, h2⟩, h3⟩, h4⟩, h5⟩, h6⟩ := h
      subst h1 h2
      exact de_lenset F.hK F.calm (F.gl h3) (F.pf.free _ (blt_in .len)) (F.gl h4) (F.pf.free _ set_in) (E_ok a F h6) h5
    · cases h
  | .fz a, c, X, W, e, F, h => by
    unfold chkE at h
    exact de_fz (E_ok a F h)
theorem A_ok : ∀ (i : Exs) {c : Sx} {X : Cx} {W : WX} {e : List Expr}, Fit T P k c X W → chkA P c i e = true → DA X T W e (wA P.G (wC P.G P.F k) i)
  | .nil, c, X, W, e, F, h => by
    unfold chkA at h
    split at h
    · exact da_nil
    · cases h
  | .cons e es, c, X, W, e', F, h => by
    unfold chkA at h
    split at h
    · simp only [Bool.and_eq_true] at h
      exact da_cons (E_ok e F h.1.2) (A_ok es F h.2) h.1.1
    · cases h
theorem O_ok : ∀ (i : Exs) {c : Sx} {X : Cx} {W : WX} {e : Option Expr}, Fit T P k c X W → chkO P c i e = true → PO X e (LO T W fun s E q x => wA P.G (wC P.G P.F k) i s E (fun l E1 => optI l fun l' => q l' E1) x)
  | .nil, c, X, W, e, F, h => by
    unfold chkO at h
    split at h
    · exact do_none
    · cases h
  | .cons a es, c, X, W, e, F, h => by
    unfold chkO at h
    split at h
    · simp only [Bool.and_eq_true] at h
      cases es with
      | cons e2 es => have := h.2; unfold chkA at this; cases this
      | nil => exact do_some (E_ok a F h.1)
    · cases h
theorem T_ok : ∀ (i : Tx) {c : Sx} {X : Cx} {W : WX} {e : Expr}, Fit T P k c X W → chkT P c i e = true → DT X T W e (wT P.G (wC P.G P.F k) i) ∧ ∀ op es p, e = .BoolOp op es p → PW X e (LT T W (wT P.G (wC P.G P.F k) i))
  | .val x, c, X, W, e, F, h => by
    unfold chkT at h
    split at h
    · rename_i a' ops bs pos
      rw [Bool.and_eq_true] at h
      refine ⟨?_, fun _ _ _ z => by cases z⟩
      obtain ⟨h0, h⟩ := h
      split at h0
      · rename_i op a b
        unfold chkE at h
        split at h
        · rename_i z1 z2 z3 z4 z5
          cases z5
          simp only [Bool.and_eq_true, decide_eq_true_eq] at h
          obtain ⟨⟨⟨h1, h2⟩, h3⟩, h4⟩ := h
          subst h1
          exact dt_cmp1 (cmp_ok (by have := F.room.un; omega) F.hK op) (E_ok a F h3) (E_ok b F h4) h2
        · cases h
      · rename_i op op2 a b d
        unfold chkE at h
        split at h
        · rename_i z1 z2 z3 z4 z5 z6 z7
          cases z7
          simp only [Bool.and_eq_true, decide_eq_true_eq] at h
          obtain ⟨⟨⟨⟨⟨h1, h2⟩, h3⟩, h4⟩, h5⟩, h6⟩ := h
          subst h1 h2
          exact dt_chn1 (cmp_ok (by have := F.room.un; omega) F.hK op) (cmp_ok (by have := F.room.un; omega) F.hK op2) (E_ok a F h4) (E_ok b F h5) (E_ok d F h6) h3
        · cases h
      · cases h0
    · rw [Bool.and_eq_true] at h
      exact ⟨dt_val F.hK (E_ok x F h.2) h.1, fun op es p z => by rw [z] at h; exact absurd h.1 Bool.false_ne_true⟩
  | .and a b, c, X, W, e, F, h => by
    unfold chkT at h
    split at h
    · rename_i a' b' p
      simp only [Bool.and_eq_true] at h
      have : PW X (.BoolOp .And [a', b'] p) (LT T W (wT P.G (wC P.G P.F k) (.and a b))) := dt_and (pw_and (T_ok a F h.1).1 (pw_and1 (T_ok b F h.2).1))
      exact ⟨this.pt, fun _ _ _ _ => this⟩
    · rename_i a' b' d' r p
      simp only [Bool.and_eq_true] at h
      have : PW X (.BoolOp .And (a' :: b' :: d' :: r) p) (LT T W (wT P.G (wC P.G P.F k) (.and a b))) := dt_and (pw_and (T_ok a F h.1).1 ((T_ok b F h.2).2 _ _ _ rfl))
      exact ⟨this.pt, fun _ _ _ _ => this⟩
    · cases h
  | .or a b, c, X, W, e, F, h => by
    unfold chkT at h
    split at h
    · rename_i a' b' p
      simp only [Bool.and_eq_true] at h
      have : PW X (.BoolOp .Or [a', b'] p) (LT T W (wT P.G (wC P.G P.F k) (.or a b))) := dt_or (pw_or (T_ok a F h.1).1 (pw_or1 (T_ok b F h.2).1))
      exact ⟨this.pt, fun _ _ _ _ => this⟩
    · rename_i a' b' d' r p
      simp only [Bool.and_eq_true] at h
      have : PW X (.BoolOp .Or (a' :: b' :: d' :: r) p) (LT T W (wT P.G (wC P.G P.F k) (.or a b))) := dt_or (pw_or (T_ok a F h.1).1 ((T_ok b F h.2).2 _ _ _ rfl))
      exact ⟨this.pt, fun _ _ _ _ => this⟩
    · cases h
  | .not a, c, X, W, e, F, h => by
    unfold chkT at h
    split at h
    · exact ⟨dt_not (T_ok a F h).1, fun _ _ _ z => by cases z⟩
    · cases h
theorem B_ok : ∀ (i : Txs) {c : Sx} {X : Cx} {W : WX} {e : List Expr}, Fit T P k c X W → chkB P c i e = true → PTs X e (LT T W (wB P.G (wC P.G P.F k) i))
  | .nil, c, X, W, e, F, h => by
    unfold chkB at h
    split at h
    · exact ⟨fun pins s σ H Q I ⟨sd, E, q, x, hs, he, hq, post, hx⟩ => pts_nil.run pins s σ H Q I (post true E H (.refl _ _) he hq)⟩
    · cases h
  | .one t, c, X, W, e, F, h => by
    unfold chkB at h
    split at h
    · exact pts_one (T_ok t F h).1
    · cases h
theorem I_ok : ∀ (i : Iz) {c : Sx} {X : Cx} {W : WX} {tg e : Expr}, Fit T P k c X W → chkI P c i e = true → PI X tg e (LI T W (wI P.G (wC P.G P.F k) i))
  | .seq x, c, X, W, tg, e, F, h => by
    unfold chkI at h
    exact di_seq F.hK (E_ok x F h)
  | .rng1 a, c, X, W, tg, e, F, h => by
    unfold chkI at h
    split at h
    · simp only [Bool.and_eq_true, decide_eq_true_eq] at h
      obtain ⟨⟨⟨h1, h2⟩, h3⟩, h4⟩ := h
      subst h1
      exact di_rng1 (F.gl h2) (F.pf.free _ rng_in) (E_ok a F h4) h3
    · cases h
  | .rng2 a b, c, X, W, tg, e, F, h => by
    unfold chkI at h
    split at h
    · simp only [Bool.and_eq_true, decide_eq_true_eq] at h
      obtain ⟨⟨⟨⟨⟨h1, h2⟩, h3⟩, h4⟩, h5⟩, h6⟩ := h
      subst h1
      exact di_rng2 (F.gl h2) (F.pf.free _ rng_in) (E_ok a F h5) (E_ok b F h6) h3 h4
    · cases h
theorem G_ok : ∀ (i : Tg) {c : Sx} {X : Cx} {W : WX} {e : Expr}, Fit T P k c X W → chkG P c i e = true → PG X e (LG T W (tgN i) (wG P.G (wC P.G P.F k) i))
  | .nm i, c, X, W, e, F, h => by
    unfold chkG at h
    split at h
    · simp only [Bool.and_eq_true] at h
      have := F.st h.2
      exact dg_nm (pg_name F.nd (F.at h.1) this.1 this.2)
    · cases h
  | .tup ts, c, X, W, e, F, h => by
    unfold chkG at h
    split at h
    · obtain ⟨h1, h2, h3⟩ := Gs_ok ts F h
      exact PG.imp (dg_tup F.hK F.calm h1 h2) fun v σ H Q ⟨d, s, E, q, x, hs, he, hd, hh, post, hx⟩ => ⟨d, s, E, q, x, hs, he, hd, by
        obtain ⟨ds, e, hl, h9⟩ := asT_inv (show asT d fun ds => ds.length = tgsL ts ∧ wGs P.G (wC P.G P.F k) ts ds s E q x from hh)
        subst e
        exact ⟨hl.trans h3, h9⟩, post, hx⟩
    · cases h
  | .sub o i, c, X, W, e, F, h => by
    unfold chkG at h
    split at h
    · simp only [Bool.and_eq_true] at h
      exact dg_sub (E_ok o F h.1.2) (E_ok i F h.2) h.1.1
    · cases h
theorem Gs_ok : ∀ (i : Tgs) {c : Sx} {X : Cx} {W : WX} {es : List Expr}, Fit T P k c X W → chkGs P c i es = true → PGs X es (LGs T W (tgNs i) (wGs P.G (wC P.G P.F k) i)) ∧ es.all plainE = true ∧ tgsL i = es.length
  | .nil, c, X, W, e, F, h => by
    unfold chkGs at h
    split at h
    · have key : ∀ ds s E q x, wGs P.G (wC P.G P.F k) .nil ds s E q x → ds = [] ∧ q s E := fun ds s E q x hh => by
        cases ds with
        | nil => exact ⟨rfl, hh⟩
        | cons d ds => exact hh.elim
      exact ⟨PGs.imp dgs_nil fun v σ H Q ⟨d, s, E, q, x, hs, he, hd, hh, post, hx⟩ => ⟨d, s, E, q, x, hs, he, hd, key _ _ _ _ _ hh, post, hx⟩, rfl, rfl⟩
    · cases h
  | .cons t ts, c, X, W, e, F, h => by
    unfold chkGs at h
    split at h
    · simp only [Bool.and_eq_true] at h
      obtain ⟨g1, g2, g3⟩ := Gs_ok ts F h.2
      have key : ∀ ds s E q x, wGs P.G (wC P.G P.F k) (.cons t ts) ds s E q x → ∃ d r, ds = d :: r ∧ wG P.G (wC P.G P.F k) t d s E (fun s1 E1 => wGs P.G (wC P.G P.F k) ts r s1 E1 q x) x := fun ds s E q x hh => by
        cases ds with
        | nil => exact hh.elim
        | cons d ds => exact ⟨d, ds, rfl, hh⟩
      exact ⟨PGs.imp (dgs_cons (G_ok t F h.1.2) g1 h.1.1) fun v σ H Q ⟨d, s, E, q, x, hs, he, hd, hh, post, hx⟩ => ⟨d, s, E, q, x, hs, he, hd, key _ _ _ _ _ hh, post, hx⟩, by rw [List.all_cons, h.1.1, g2]; rfl, by rw [List.length_cons, ← g3]; rfl⟩
    · cases h
end
end
end DL

set_option Elab.async false
set_option linter.all false
set_option maxRecDepth 100000
set_option maxHeartbeats 4000000
namespace DL
open PySem L2 PySem.Spec PyProof.Rows

def swB (c : Sx) (t : Str) (tl vl : Nat) (sc : Scope) : Bool := c.names.lookup t == some .local && tl == vl && !(sc.names.any fun p => p.1 == t && (p.2 == .local || p.2 == .cell))
def noTT (tg e : Expr) : Bool := match tg with
  | .Tuple .. => (match e with | .Tuple .. => false | _ => true)
  | .Subscript .. => true
  | _ => false
def augOn : Bop → Bool
  | .add => true | .sub => true | _ => false
/-- name = e' -/
def chkNm (P : Pg) (c : Sx) (i : Nat) (e : Ex) (x : Str) (tp : Pos) (e' : Expr) : Bool := atB c i x && stB c x && chkE P c e e' && (noComp e' || match e' with
  | .ListComp _ _ sc pos => !(swB c x tp.line pos.line sc) || (match e with | .lc .. => true | _ => false)
  | _ => false)
section
variable (P : Pg)
mutual
def chkS (c : Sx) : Sm → Stmt → Bool
  | .exp e, st => match st with
    | .Expr e' _ => noComp e' && chkE P c e e'
    | _ => false
  | .asg t e, st => match st with
    | .Assign [.Name x tp] e' _ => (match t with | .nm i => chkNm P c i e x tp e' | _ => false)
    | .Assign [tg] e' _ => plainE tg && noTT tg e' && noComp e' && chkG P c t tg && chkE P c e e'
    | _ => false
  | .aug i op e, st => match st with
    | .AugAssign (.Name x _) op' e' _ => augOn op && decide (op' = bop op) && atB c i x && stB c x && chkE P c e e'
    | _ => false
  | .ret e, st => match st with
    | .Return (some e') _ => chkE P c e e'
    | _ => false
  | .retn, st => match st with
    | .Return none _ => true
    | _ => false
  | .pass, st => match st with
    | .Pass _ => true
    | _ => false
  | .ite t a b, st => match st with
    | .If t' a' b' _ => chkT P c t t' && chkSs c a a' && chkSs c b b'
    | _ => false
  | .for t it b, st => match st with
    | .For tg it' b' [] _ => noSet it' && chkG P c t tg && chkI P c it it' && chkSs c b b'
    | _ => false
  | .whl t b, st => match st with
    | .While t' b' [] _ => chkT P c t t' && chkSs c b b'
    | _ => false
  | .rse n, st => match st with
    | .Raise (some (.Call (.Name x _) [.Constant (.str _) _ _] [] _)) none _ => decide (n < P.nx) && decide (x = P.xn n) && glB c x && !dbg x
    | _ => false
def chkSs (c : Sx) : Sms → List Stmt → Bool
  | .nil, sts => match sts with
    | [] => true
    | _ => false
  | .cons s ss, sts => match sts with
    | st :: r => chkS c s st && chkSs c ss r
    | [] => false
end
end
theorem swap_lc {elt : Expr} {gens : List Comprehension} {sc : Scope} {pos tp : Pos} {t : Str} {l : Nat} {env : Env} : swapsWith (.ListComp elt gens sc pos) (some (.Name t tp)) l env =
    pure (env.blockKind == .function && env.kindOf t == some .local && tp.line == pos.line && !(sc.names.any fun (n, k) => n == t && (k == .local || k == .cell))) := rfl
section
variable {T : Tb} {P : Pg} {k : Nat} {c : Sx} {X : Cx} {W : WX}
theorem Fit.swap (F : Fit T P k c X W) {elt : Expr} {gens : List Comprehension} {sc : Scope} {pos tp : Pos} {t : Str} {l : Nat} : swapsWith (.ListComp elt gens sc pos) (some (.Name t tp)) l X.env = pure (swB c t tp.line pos.line sc) := by
  rw [swap_lc]
  have h1 : (X.env.blockKind == ScopeKind.function) = true := by
    unfold PySem.Env.blockKind
    rw [F.kind]
    rfl
  have h2 : X.env.kindOf t = c.names.lookup t := by
    show X.env.scope.names.lookup t = _
    rw [F.names]
  rw [h1, h2, Bool.true_and]
  rfl
theorem nm_ok {i : Nat} {e : Ex} {x : Str} {tp spos : Pos} {e' : Expr} (F : Fit T P k c X W) (h : chkNm P c i e x tp e' = true) :
    DS X T W (.Assign [.Name x tp] e' spos) (fun D' s E => wE P.G (wC P.G P.F k) e s E (fun d E1 => i < s.length ∧ D'.nx (s.set i (some d)) E1) D'.x) := by
  unfold chkNm at h
  rw [Bool.and_eq_true, Bool.and_eq_true, Bool.and_eq_true, Bool.or_eq_true] at h
  obtain ⟨⟨⟨h1, h2⟩, h3⟩, h4⟩ := h
  have st := F.st h2
  rcases h4 with h4 | h4
  · exact ds_set F.nd (F.at h1) st.1 (E_ok e F h3) (swap_no h4) st.2
  · split at h4
    · rename_i elt gens sc pos
      by_cases hw : swB c x tp.line pos.line sc = true
      · rw [hw] at h4
        simp only [Bool.not_true, Bool.false_or] at h4
        split at h4
        · rename_i m own e t it cs
          unfold chkE at h3
          split at h3
          · rename_i e1 t1 it1 ifs as scope pos2 heq
            cases heq
            simp only [Bool.and_eq_true, decide_eq_true_eq] at h3
            obtain ⟨⟨⟨⟨⟨⟨⟨g1, g2⟩, g3⟩, g4⟩, g5⟩, g6⟩, g7⟩, g8⟩ := h3
            subst g1
            have B : Blk X T sc (ownL c own) t1 elt ifs (wG P.G (wC P.G P.F k) t) (wB P.G (wC P.G P.F k) cs) (wE P.G (wC P.G P.F k) e) (tgN t) :=
              ⟨F.blkOk g2, fun s H C cl fp => G_ok t (F.blk g2 s H C cl fp) g5, fun s H C cl fp => B_ok cs (F.blk g2 s H C cl fp) g7, fun s H C cl fp => E_ok e (F.blk g2 s H C cl fp) g8, fun i hi => by rw [ownL_snd]; exact g6 i hi⟩
            have hl : X.env.scope.names.lookup x = some .local := by
              unfold swB at hw
              simp only [Bool.and_eq_true] at hw
              rw [F.names]
              exact by simpa using hw.1.1
            have := ds_setLc (m := m) (py := tp) (spos := spos) F.calm F.nd (F.at h1) hl (by rw [F.swap, hw]) (I_ok it (tg := t1) F g3) B g4
            rw [ownL_snd] at this
            exact this
          · cases h3
        · cases h4
      · exact ds_set F.nd (F.at h1) st.1 (E_ok e F h3) (by rw [F.swap]; rw [show swB c x tp.line pos.line sc = false from by simpa using hw]) st.2
    · cases h4
mutual
theorem S_ok : ∀ (i : Sm) {c : Sx} {X : Cx} {W : WX} {st : Stmt}, Fit T P k c X W → PassesOwn (model X.prog X.w) X.A X.env X.xe → chkS P c i st = true → DS X T W st (wS P.G (wC P.G P.F k) i)
  | .exp e, c, X, W, st, F, hp, h => by
    unfold chkS at h
    split at h
    · rw [Bool.and_eq_true] at h
      exact ds_exp (E_ok e F h.2) h.1
    · cases h
  | .asg t e, c, X, W, st, F, hp, h => by
    unfold chkS at h
    split at h
    · split at h
      · exact nm_ok F h
      · cases h
    · rename_i tg e' pos hne
      simp only [Bool.and_eq_true] at h
      obtain ⟨⟨⟨⟨h1, h2⟩, h3⟩, h4⟩, h5⟩ := h
      refine ds_asg (E_ok e F h5) (G_ok t F h4) ?_ ?_ h1
      · exact swap_no h3
      · unfold noTT at h2
        split at h2
        · split at h2
          · cases h2
          · rename_i hh
            cases e' <;> first | rfl | exact (hh _ _ _ rfl).elim
        · cases e' <;> rfl
        · cases h2
    · cases h
  | .aug i op e, c, X, W, st, F, hp, h => by
    unfold chkS at h
    split at h
    · simp only [Bool.and_eq_true, decide_eq_true_eq] at h
      obtain ⟨⟨⟨⟨h1, h2⟩, h3⟩, h4⟩, h5⟩ := h
      subst h2
      have st := F.st h4
      exact ds_aug F.hK (by cases op <;> first | exact .inl rfl | exact .inr rfl | cases h1) F.nd (F.at h3) st.1 (E_ok e F h5) st.2
    · cases h
  | .ret e, c, X, W, st, F, hp, h => by
    unfold chkS at h
    split at h
    · exact ds_ret (E_ok e F h)
    · cases h
  | .retn, c, X, W, st, F, hp, h => by
    unfold chkS at h
    split at h
    · exact ds_retn
    · cases h
  | .pass, c, X, W, st, F, hp, h => by
    unfold chkS at h
    split at h
    · exact ds_pass
    · cases h
  | .ite t a b, c, X, W, st, F, hp, h => by
    unfold chkS at h
    split at h
    · simp only [Bool.and_eq_true] at h
      exact ds_if (T_ok t F h.1.1).1 (Ss_ok a F hp h.1.2) (Ss_ok b F hp h.2)
    · cases h
  | .for t it b, c, X, W, st, F, hp, h => by
    unfold chkS at h
    split at h
    · simp only [Bool.and_eq_true] at h
      obtain ⟨⟨⟨h1, h2⟩, h3⟩, h4⟩ := h
      exact ds_for hp F.calm (I_ok it F h3) (G_ok t F h2) (Ss_ok b F hp h4) h1
    · cases h
  | .whl t b, c, X, W, st, F, hp, h => by
    unfold chkS at h
    split at h
    · simp only [Bool.and_eq_true] at h
      exact ds_whl hp (T_ok t F h.1).1 (Ss_ok b F hp h.2)
    · cases h
  | .rse n, c, X, W, st, F, hp, h => by
    unfold chkS at h
    split at h
    · simp only [Bool.and_eq_true, decide_eq_true_eq, Bool.not_eq_true'] at h
      obtain ⟨⟨⟨h1, h2⟩, h3⟩, h4⟩ := h
      subst h2
      obtain ⟨B, newId, initId, bmB, e1, e2, e3, e4, e5, e6⟩ := F.pf.exc n h1
      exact ds_rse F.calm F.tk (pmk_own e1 e2 e3 e4 (raises_own e5 e6) (F.gl h3) h4) rfl
    · cases h
theorem Ss_ok : ∀ (i : Sms) {c : Sx} {X : Cx} {W : WX} {st : List Stmt}, Fit T P k c X W → PassesOwn (model X.prog X.w) X.A X.env X.xe → chkSs P c i st = true → DSs X T W st (wSs P.G (wC P.G P.F k) i)
  | .nil, c, X, W, st, F, hp, h => by
    unfold chkSs at h
    split at h
    · exact dss_nil
    · cases h
  | .cons s ss, c, X, W, st, F, hp, h => by
    unfold chkSs at h
    split at h
    · simp only [Bool.and_eq_true] at h
      exact dss_cons (ta := wS P.G (wC P.G P.F k) s) (tb := wSs P.G (wC P.G P.F k) ss) (S_ok s F hp h.1) (Ss_ok ss F hp h.2)
    · cases h
end
end
/-! # a def, all defs -/
def Sx.of (N : List Str) (sc : Scope) : Sx := ⟨N, sc.names, (sc.names.filter fun p => p.2 == .cell).map (·.1)⟩
section
variable {T : Tb} {P : Pg} {k : Nat} {prog : Program} {w : World} {K : PySem.W.Frag} {mg : Str → Option Value} {base : Heap}
theorem startD_ok {n : Nat} {N : List Str} {ds : List D} {vs : List V} {H : Hp} (hr : RDs T.K H ds vs) (hn : N.length = n) : RS T H (startD n ds) (L2.start N vs) := by
  subst hn
  unfold startD L2.start
  refine ⟨by simp [hr.length], fun i d e => ?_⟩
  by_cases hi : i < ds.length
  · rw [List.getElem?_append_left (by simpa using hi)] at e
    rw [List.getElem?_append_left (by simpa [hr.length] using hi)]
    rw [List.getElem?_map] at e ⊢
    cases q : ds[i]? with
    | none => rw [q] at e; cases e
    | some d' =>
      rw [q] at e
      cases e
      obtain ⟨v, e1, hv⟩ := hr.get q
      exact ⟨v, by rw [e1]; rfl, hv⟩
  · rw [List.getElem?_append_right (by simpa using hi), List.getElem?_replicate] at e
    split at e <;> cases e
theorem fn_go {f : Nat} {fn : Fn} {a : Addr} {fd : FuncData} {ps N : List Str} {x qual : Str} {params : Arguments} {body : List Stmt} {scope : Scope} {dvs : List V} {kws : List (Str × V)} (pf : PFk T P k prog w K mg base) (hK : K = T.K)
    (hf : P.F f = some fn) (F : FunD K x qual params body scope dvs kws a fd) (S : FnScope N ps scope) (hc : chkSs P (.of N scope) fn.body body = true) (hps : ps.length = fn.ps) (hN : N.length = fn.sl) :
    FnG prog w K mg base (k + 1) a fd ps (spD T (wC P.G P.F (k + 1) f)) := by
  refine fnG_of F S (fun vs H Q E hsp => ?_) (fun cdv A outer s H vs Q E hg hr hsp => ?_)
  · obtain ⟨ds, En, q, xx, he, hd, hw, _⟩ := hsp
    unfold wC at hw
    rw [hf] at hw
    rw [hd.length, hw.1, hps]
  · obtain ⟨ds, En, q, xx, he, hd, hw, h1, h2⟩ := hsp
    unfold wC at hw
    rw [hf] at hw
    obtain ⟨hl, hw⟩ := hw
    have tk : Takes (cxOf (L2.CX prog w) prog w K mg base N qual scope a cdv A outer s H E) (fun cls d _ H => E cls d H) := takes_of (E := E) rfl rfl rfl rfl
    have F2 : Fit T P k (.of N scope) (cxOf (L2.CX prog w) prog w K mg base N qual scope a cdv A outer s H E) (fun cls d _ H => E cls d H) :=
      ⟨hK, rfl, rfl, S.kind, S.nd, rfl, hr, guards_deeper hg, tk, fun _ _ => rfl, pf⟩
    have hp : PassesOwn (model prog w) (cxOf (L2.CX prog w) prog w K mg base N qual scope a cdv A outer s H E).A (cxOf (L2.CX prog w) prog w K mg base N qual scope a cdv A outer s H E).env (cxOf (L2.CX prog w) prog w K mg base N qual scope a cdv A outer s H E).xe := passes_of rfl
    refine ⟨_, Ss_ok fn.body F2 hp hc, startD fn.sl ds, En, _, startD_ok hd hN, he, hw, ⟨?_, ?_, ?_⟩⟩
    · rintro s' E' σ' H' st rs re ⟨E2, le, z⟩
      exact h1 _ E2 _ H' (st.le le) (re.le le) (rd_non.mpr rfl) z
    · rintro d E' v H' st re rd ⟨E2, le, z⟩
      exact h1 _ E2 _ H' (st.le le) (re.le le) rd z
    · rintro c s' E' σ' H' st rs re ⟨E2, le, z⟩
      exact h2 c E2 H' (st.le le) (re.le le) z
/-- what is asked of the head -/
structure Stat (T : Tb) (P : Pg) (K : PySem.W.Frag) (mg : Str → Option Value) : Prop where
  hK : K = T.K
  glo : ∀ g d, P.G g = some d → ∃ v u, mg (P.gn g) = some u ∧ RelV v u ∧ ∀ H, RD T.K H d v
  free : ∀ x ∈ blts, mg x = none
  func : ∀ f fn, P.F f = some fn → ∃ a fd ps N x qual params body scope, mg (P.fnm f) = some (.ref a) ∧ PySem.W.keepIn K (.ref a) = true ∧ Binds K fd ps [] ∧ FunD K x qual params body scope [] [] a fd ∧ FnScope N ps scope ∧
    chkSs P (.of N scope) fn.body body = true ∧ ps.length = fn.ps ∧ N.length = fn.sl
  exc : ∀ n, n < P.nx → ∃ B newId initId bmB, ExcBaseFacts B newId initId bmB ∧ PySem.W.excIn K (T.cl n) bmB newId = true ∧ mg (P.xn n) = some (.ref (T.cl n)) ∧ PySem.W.keepIn K (.ref (T.cl n)) = true ∧
    PySem.W.subIn K (.ref (T.cl n)) (.type "BaseException") = some true ∧ PySem.W.typeIn K (.ref (T.cl n)) = some (.type "type")
theorem Stat.all (S : Stat T P K mg) : ∀ k, PFk T P k prog w K mg base
  | 0 => ⟨S.glo, S.free, fun f fn hf => by
      obtain ⟨a, fd, ps, N, x, qual, params, body, scope, h1, h2, h3, h4, h5, h6, h7, h8⟩ := S.func f fn hf
      exact ⟨a, fd, ps, h1, h2, h3, ⟨fun vs H Q E ⟨ds, En, q, xx, he, hd, hw, _⟩ => hw.elim, fun A outer s H args us vs Q E _ _ _ _ _ ⟨ds, En, q, xx, he, hd, hw, _⟩ => hw.elim⟩⟩, S.exc⟩
  | k + 1 => ⟨S.glo, S.free, fun f fn hf => by
      obtain ⟨a, fd, ps, N, x, qual, params, body, scope, h1, h2, h3, h4, h5, h6, h7, h8⟩ := S.func f fn hf
      exact ⟨a, fd, ps, h1, h2, h3, fn_go (S.all k) S.hK hf h4 h5 h6 h7 h8⟩, S.exc⟩
end
end DL

set_option Elab.async false
set_option linter.all false
set_option maxRecDepth 100000
set_option maxHeartbeats 4000000
namespace DL
open PySem L2 PySem.Spec PyProof.Rows PySem.W
theorem law_callD {P : Program} {w : World} {K : PySem.W.Frag} {mg mb : Str → Option Value} {k : Nat} {fa a : Addr} {fd : FuncData} {x : Str} {sp : Sp} {s₁ : Shared} {vs : List Value} {ns : List Int}
    (KX : K.In s₁.heap) (hns : s₁.heap.Ns mainGlobals mg) (hb : s₁.heap.Ns builtinsNs mb) (hbb : ∀ x : Str, x ≠ "__name__" → mb x = bootBuiltins x) (hlim : s₁.heap.NoLimit) (hg : s₁.gens = #[])
    (ha : s₁.heap.get? a = some { cls := .type "list", data := .seq vs.toArray }) (hi : IntsAre vs ns) (hl : ns.length ≤ sizeLine) (hr : Room k callerA) (hgd : callerA.guards = some [])
    (F : ∀ base : Heap, K.In base → base.Ns mainGlobals mg → FnG P w K mg base k fa fd [x] sp) (hbind : ∀ (s : Shared) (u : Value), BindsTo s fd ⟨[u], []⟩ [(x, u)])
    (hsp : ∀ H : Hp, Only H → FzL K H a (ns.map V.int) → sp [.ref a] H (fun v _ => v = .bl true) fun _ _ _ => False) :
    codeAny (model P w) callerA (.call (.ref fa) ⟨[.ref a], []⟩) (fun r s' => r = .ok (.ret (.bool true)) ∧ OldK s₁.heap s'.heap ∧ s'.os = s₁.os ∧ AllBare s'.gens) s₁ := by
  have rv := vals_ints hi
  have lenV := hi.length
  have core : ∀ H : Hp, Only H → FzL K H a (ns.map V.int) → HOk P w H s₁.heap → (∀ b, H b ≠ none → b = a) → (H a ≠ none → K.lookup a = none) →
      codeAny (model P w) callerA (.call (.ref fa) ⟨[.ref a], []⟩) (fun r s' => r = .ok (.ret (.bool true)) ∧ OldK s₁.heap s'.heap ∧ s'.os = s₁.os ∧ AllBare s'.gens) s₁ := by
    intro H hO hS hok hA hK
    have base_of : ∀ {b : Addr} {o : Obj}, s₁.heap.get? b = some o → H b = none → (hidT s₁.heap H).get? b = some o := fun e n => hidT_get e n
    have noA : ∀ {b : Addr} {o : Obj} {es : Array DictEntry} {ep : Nat}, s₁.heap.get? b = some o → o.data = .dict es ep → H b = none := fun {b o es ep} e d => by
      cases q : H b with
      | none => rfl
      | some u =>
        have e' : b = a := hA b (by rw [q]; simp)
        subst e'
        rw [ha] at e; cases e
        have d' : Data.seq vs.toArray _ = Data.dict es ep := d
        cases d'
    have nsK : ∀ {b : Addr} {m : Str → Option Value}, s₁.heap.Ns b m → (hidT s₁.heap H).Ns b m := fun {b m} ⟨o, es, ep, e, d, r⟩ => ⟨o, es, ep, base_of e (noA e d), d, r⟩
    have hKb : K.In (hidT s₁.heap H) := fun b o e => base_of (KX b o e) (by
      cases q : H b with
      | none => rfl
      | some u =>
        have e' : b = a := hA b (by rw [q]; simp)
        subst e'
        rw [hK (by rw [q]; simp)] at e; cases e)
    have hM : Mod K mg (hidT s₁.heap H) := ⟨hKb, nsK hns, ⟨mb, nsK hb, hbb⟩, let ⟨mc, h1, h2⟩ := hlim; ⟨mc, nsK h1, h2⟩⟩
    have e0 : Env0 P w K mg (hidT s₁.heap H) callerA [] s₁ H := ⟨rfl, hM, fun b o e => of_hidT e, Nat.le_of_eq (hidT_size _ _), trivial, fun b hb => absurd (show b ∈ ([] : List Addr) from hb) (by simp), hok, .of_eq hg⟩
    refine codeAny_mono ((F _ hKb (nsK hns)).run callerA [] s₁ H ⟨[.ref a], []⟩ [.ref a] [.ref a] _ _ hgd hr e0 (hbind s₁ (.ref a)) (.cons rfl .nil) (hsp H hO hS)) fun r s' h => ?_
    cases r with
    | error e =>
      obtain ⟨_, _, _, _, _, _, _, _, _, _, _, _, z⟩ := h
      exact z.elim
    | ok fl =>
      cases fl with
      | next => exact False.elim h
      | brk => exact False.elim h
      | cont => exact False.elim h
      | ret u =>
        obtain ⟨v, H', os, bare, un, hok', r', q⟩ := h
        have q' : v = .bl true := q
        subst q'
        obtain rfl : u = Value.bool true := r'
        refine ⟨rfl, OldK.of_keep fun b o e => ?_, os, bare⟩
        cases q : H b with
        | none => exact un.keep b o e q (by intro z; exact absurd (show b ∈ ([] : List Addr) from z) (by simp)) (by simp)
        | some u =>
          rcases hO b with z | ⟨ob, xs, z⟩
          · rw [q] at z; cases z
          · have z2 := un.frzs b ob _ z
            obtain ⟨e1, _⟩ := hok b _ z
            obtain ⟨e2, _⟩ := hok' b _ z2
            rw [e] at e1; cases e1
            exact e2
  cases hk : K.lookup a with
  | some o =>
    have e := KX a o hk
    rw [ha] at e
    cases e
    exact core (fun _ => none) (fun _ => .inl rfl) (.inr ⟨vs, _, hk, by rw [List.length_map]; exact hl, rv⟩) (fun b u z => by have z' : (none : Option HO) = some u := z; cases z') (fun b z => absurd rfl z) fun z => absurd rfl z
  | none =>
    refine core (fun b => if b = a then some (.frz { cls := .type "list", data := .seq vs.toArray } (.lst (ns.map V.int))) else none) (fun b => ?_) (.inl ⟨{ cls := .type "list", data := .seq vs.toArray }, if_pos rfl⟩) (fun b u z => ?_) (fun b z => ?_) fun _ => hk
    · by_cases hb : b = a
      · exact .inr ⟨_, _, if_pos hb⟩
      · exact .inl (if_neg hb)
    · by_cases hb : b = a
      · have z' := (if_pos hb).symm.trans z
        cases z'
        subst hb
        exact ⟨ha, by rw [List.length_map]; exact hl, vs, _, rv, ha⟩
      · have z' := (if_neg hb).symm.trans z
        cases z'
    · by_cases hb : b = a
      · exact hb
      · exact absurd (if_neg hb) z
theorem rds_ints {T : Tb} {H : Hp} : ∀ ns : List Int, RDs T.K H (ns.map D.int) (ns.map V.int)
  | [] => .nil
  | n :: ns => .cons (rd_int.mpr rfl) (rds_ints ns)
/-- THE END -/
theorem walk_D {l : PySem.W.OpenLaw} {n k f : Nat} {q : Program} {loose : List Str} {XP : (Str → Option Value) → Heap → Prop} {YP : World → Heap → Prop} {d : DefRec} {x : Str} {P : Pg}
    (hn : l.most = some n) (hn2 : n ≤ sizeLine) (hdf : d.params.defaults = []) (hr : Room k callerA)
    (F : ∀ (w : World) (mg : Str → Option Value) (fa : Addr) (h : Heap), YP w h → h.Ns mainGlobals mg → mg d.name = some (.ref fa) →
      ∃ (T : Tb) (fd : FuncData), T.K.In h ∧ (∀ (s : Shared) (u : Value), BindsTo s fd ⟨[u], []⟩ [(x, u)]) ∧ ∀ base : Heap, T.K.In base → base.Ns mainGlobals mg → FnG l.prog w T.K mg base k fa fd [x] (spD T (wC P.G P.F k f)))
    (S : ∀ ns : List Int, ns.length ≤ n → wC P.G P.F k f [.lst (ns.map .int)] (fun _ => none) (fun d _ => d = .bl true) fun _ _ => False) :
    PySem.W.WalkO q loose XP YP l.row.toRowW d [] (fun f vs => PySem.call f vs) := by
  refine Att.attach_call hn hdf fun w s₀ s₁ mg mb fa o pm cd doc a vs ns G Y ho hd hcd hmg hobj hints hlen hg => ?_
  obtain ⟨T, fd, KX, hb, hF⟩ := F w mg fa _ Y G.T.g hmg
  refine law_callD KX G.T.g G.T.b G.T.builtins G.T.nolimit hg hobj hints (Nat.le_trans hlen hn2) hr rfl hF hb fun H hO hS => ?_
  exact ⟨[.lst (ns.map .int)], fun _ => none, _, _, (fun a c e => nomatch e), .cons (by unfold RD; exact ⟨a, _, rfl, hS, rds_ints ns⟩) .nil, S ns hlen, fun d E' v H' _ _ rd e => by subst e; exact rd_bl.mp rd, fun c E' H' _ _ z => z⟩
end DL

set_option Elab.async false
set_option linter.all false
set_option maxRecDepth 100000
namespace DL
open PySem L2
/-! # evaluation -/
theorem getv0 {s : SD} {d : D} {k : D → Prop} : getv (some d :: s) 0 k = k d := rfl
theorem getvS {s : SD} {o : Option D} {n : Nat} {k : D → Prop} : getv (o :: s) (n + 1) k = getv s n k := by cases o <;> rfl
theorem wC_go {G : Nat → Option D} {F : Nat → Option Fn} {k f : Nat} {fn : Fn} {ds : List D} {E : En} {q : QE} {x : Nat → En → Prop} (h : F f = some fn) (hl : ds.length = fn.ps)
    (hb : wSs G (wC G F k) fn.body ⟨fun _ E1 => ∃ E2, En.le E2 E1 ∧ q .non E2, fun d E1 => ∃ E2, En.le E2 E1 ∧ q d E2, fun c _ E1 => ∃ E2, En.le E2 E1 ∧ x c E2⟩ (startD fn.sl ds) E) : wC G F (k + 1) f ds E q x := by
  unfold wC
  rw [h]
  exact ⟨hl, hb⟩
theorem En.set_set (E : En) (p : Addr) (c c' : Cell) : (E.set p c).set p c' = E.set p c' := by
  funext a
  unfold En.set
  by_cases h : a = p
  · rw [if_pos h, if_pos h]
  · rw [if_neg h, if_neg h, if_neg h]
theorem En.set_comm (E : En) {p r : Addr} (h : p ≠ r) (c c' : Cell) : (E.set p c).set r c' = (E.set r c').set p c := by
  funext a
  unfold En.set
  by_cases h1 : a = p
  · subst h1
    rw [if_neg h, if_pos rfl, if_pos rfl]
  · by_cases h2 : a = r
    · subst h2
      rw [if_pos rfl, if_neg h1, if_pos rfl]
    · rw [if_neg h2, if_neg h1, if_neg h1, if_neg h2]
theorem En.set_id {E : En} {p : Addr} {c : Cell} (h : E p = some c) : E.set p c = E := by
  funext a
  unfold En.set
  by_cases h1 : a = p
  · subst h1; rw [if_pos rfl, h]
  · rw [if_neg h1]
/-- forgetting a new cell -/
theorem En.le_set {E : En} {p : Addr} {c : Cell} (h : E p = none) : E.le (E.set p c) := fun a c' e => by
  rw [En.set_ne _ _ (fun z => by subst z; rw [h] at e; cases e)]
  exact e
section
variable {E : En} {a : Addr} {xs : List D} {k : List D → Prop}
theorem asQ_ref (h : E a = some (.lst xs)) : asQ E (.ref a) k = k xs := by
  show asL E (.ref a) k = k xs
  unfold asL lv
  simp only [h]
theorem asL_ref (h : E a = some (.lst xs)) : asL E (.ref a) k = k xs := by
  unfold asL lv
  simp only [h]
theorem asC_ref {k : Addr → List D → Prop} (h : E a = some (.lst xs)) : asC E (.ref a) k = k a xs := by
  unfold asC
  simp only [h]
theorem asL_lst : asL E (.lst xs) k = k xs := rfl
theorem asQ_lst : asQ E (.lst xs) k = k xs := rfl
theorem asQ_tup : asQ E (.tup xs) k = k xs := rfl
theorem ixR_ref {i : Int} {q : QE} (h : E a = some (.lst xs)) : ixR E (.ref a) (.int i) q = opt (atI xs i) fun d => q d E := by
  show asQ E (.ref a) _ = _
  rw [asQ_ref h]
theorem ixR_lst {i : Int} {q : QE} : ixR E (.lst xs) (.int i) q = opt (atI xs i) fun d => q d E := rfl
theorem ixR_tup {i : Int} {q : QE} : ixR E (.tup xs) (.int i) q = opt (atI xs i) fun d => q d E := rfl
theorem ixR_str {z : List Nat} {i : Int} {q : QE} : ixR E (.str z) (.int i) q = (z.length ≤ 16777216 ∧ opt (atI z i) fun c => q (.str [c]) E) := rfl
theorem opt_some {α : Type} {v : α} {k : α → Prop} : opt (some v) k = k v := rfl
theorem lenR_ref {q : QE} (h : E a = some (.lst xs)) : lenR E (.ref a) q = q (.int xs.length) E := by
  show asQ E (.ref a) _ = _
  rw [asQ_ref h]
theorem lenR_lst {q : QE} : lenR E (.lst xs) q = q (.int xs.length) E := rfl
theorem lenR_tup {q : QE} : lenR E (.tup xs) q = q (.int xs.length) E := rfl
theorem lenR_str {z : List Nat} {q : QE} : lenR E (.str z) q = (z.length ≤ 16777216 ∧ q (.int z.length) E) := rfl
theorem truR_bl {b : Bool} {k : Bool → Prop} : truR E (.bl b) k = k b := rfl
theorem lv_ref (h : E a = some (.lst xs)) : lv E (.ref a) = some xs := by unfold lv; simp only [h]
theorem lv_lst : lv E (.lst xs) = some xs := rfl
end
theorem atI0 {α : Type} (x : α) (xs : List α) : atI (x :: xs) 0 = some x := by
  unfold atI ixN
  rw [if_pos (Int.le_refl 0), if_pos (by simp only [List.length_cons]; omega)]
  rfl
theorem atI1 {α : Type} (x y : α) (xs : List α) : atI (x :: y :: xs) 1 = some y := by
  unfold atI ixN
  rw [if_pos (by decide), if_pos (by simp only [List.length_cons]; omega)]
  rfl
theorem atI2 {α : Type} (x y z : α) (xs : List α) : atI (x :: y :: z :: xs) 2 = some z := by
  unfold atI ixN
  rw [if_pos (by decide), if_pos (by simp only [List.length_cons]; omega)]
  rfl
theorem atIn {α : Type} {xs : List α} {i : Int} {j : Nat} {x : α} (h : i = (j : Int)) (e : xs[j]? = some x) : atI xs i = some x := by
  subst h; exact atI_nat e
theorem ixN0 {n : Nat} : ixN (n + 1) 0 = some 0 := by
  unfold ixN
  rw [if_pos (Int.le_refl 0), if_pos (by omega)]
  rfl
theorem ixN2 {n : Nat} : ixN (n + 3) 2 = some 2 := by
  unfold ixN
  rw [if_pos (by decide), if_pos (by omega)]
  rfl
theorem ixNn {n j : Nat} (h : j < n) : ixN n (j : Int) = some j := by
  unfold ixN
  rw [if_pos (by omega), if_pos (by omega)]
  simp
section
variable {E : En} {m : Bool} {q : QE} {i j : Int} {a b : List Nat} {xs ys : List D} {p : Addr} {c : Bool} {k : Bool → Prop}
theorem bop_ai : bopR .add m E (.int i) (.int j) q = q (.int (i + j)) E := rfl
theorem bop_as : bopR .add m E (.str a) (.str b) q = (a.length + b.length ≤ 16777216 ∧ q (.str (a ++ b)) E) := rfl
theorem bop_al : bopR .add m E (.lst xs) (.lst ys) q = newL m (xs ++ ys) E q := rfl
theorem bop_si : bopR .sub m E (.int i) (.int j) q = q (.int (i - j)) E := rfl
theorem bop_mi : bopR .mul m E (.int i) (.int j) q = (CMulW i j ∧ q (.int (i * j)) E) := rfl
theorem bop_ms : bopR .mul m E (.str a) (.int i) q = (a.length ≠ 0 ∧ i.toNat * a.length ≤ 16777216 ∧ i < 16777216 ∧ -16777216 < i ∧ q (.str (rep i.toNat a)) E) := rfl
theorem bop_mb : bopR .mul m E (.lst xs) (.bl c) q = newL m (if c = true then xs else []) E q := rfl
theorem bop_mo : bopR .mod m E (.int i) (.int j) q = (0 < j ∧ q (.int (i % j)) E) := rfl
theorem bop_fd : bopR .fdiv m E (.int i) (.int j) q = (CDivW i j ∧ q (.int (i / j)) E) := rfl
theorem bop_pw : bopR .pow m E (.int i) (.int j) q = (0 ≤ j ∧ (i.natAbs.log2 + 1 : Nat) * j ≤ 2 ^ 27 ∧ q (.int (i ^ j.toNat)) E) := rfl
theorem bop_ar {x y : D} (h1 : lv E x = some xs) (h2 : lv E y = some ys) : bopR .add m E x y q = newL m (xs ++ ys) E q := by
  cases x with
  | lst _ => cases y with
    | lst _ => simp only [bopR, h1, h2]
    | ref _ => simp only [bopR, h1, h2]
    | _ => cases h2
  | ref _ => cases y with
    | lst _ => simp only [bopR, h1, h2]
    | ref _ => simp only [bopR, h1, h2]
    | _ => cases h2
  | _ => cases h1
theorem cmp_lti : cmpR .lt E (.int i) (.int j) k = k (decide (i < j)) := rfl
theorem cmp_lei : cmpR .le E (.int i) (.int j) k = k (decide (i ≤ j)) := rfl
theorem cmp_gti : cmpR .gt E (.int i) (.int j) k = k (decide (j < i)) := rfl
theorem cmp_gei : cmpR .ge E (.int i) (.int j) k = k (decide (j ≤ i)) := rfl
theorem cmp_eqi : cmpR .eq E (.int i) (.int j) k = k (i == j) := rfl
theorem cmp_nei : cmpR .ne E (.int i) (.int j) k = k (!(i == j)) := rfl
theorem cmp_eqs : cmpR .eq E (.str a) (.str b) k = k (a == b) := rfl
theorem cmp_nes : cmpR .ne E (.str a) (.str b) k = k (!(a == b)) := rfl
theorem cmp_isin {x y : D} : cmpR .isin E x y k = inR E x y k := rfl
theorem cmp_nin {x y : D} : cmpR .nin E x y k = inR E x y fun b => k (!b) := rfl
theorem in_sign {n : Nat} : inR E (.str [n]) (.str b) k = k (decide (n ∈ b)) := rfl
theorem in_tup {x : D} : inR E x (.tup xs) k = (flat x = true ∧ xs.all flat = true ∧ k (xs.any fun z => eqF z x)) := rfl
theorem ixR_set : ixR (E.set p (.lst xs)) (.ref p) (.int i) q = opt (atI xs i) fun d => q d (E.set p (.lst xs)) := ixR_ref (En.set_same _ _ _)
theorem asC_set {k : Addr → List D → Prop} : asC (E.set p (.lst xs)) (.ref p) k = k p xs := asC_ref (En.set_same _ _ _)
theorem asL_set {k : List D → Prop} : asL (E.set p (.lst xs)) (.ref p) k = k xs := asL_ref (En.set_same _ _ _)
theorem asQ_set {k : List D → Prop} : asQ (E.set p (.lst xs)) (.ref p) k = k xs := asQ_ref (En.set_same _ _ _)
theorem lenR_set : lenR (E.set p (.lst xs)) (.ref p) q = q (.int xs.length) (E.set p (.lst xs)) := lenR_ref (En.set_same _ _ _)
theorem lv_set : lv (E.set p (.lst xs)) (.ref p) = some xs := lv_ref (En.set_same _ _ _)
theorem seq_lst {q : List D → (En → Prop) → En → Prop} : seqR E (.lst xs) q = q xs (fun _ => True) E := rfl
theorem seq_tup {q : List D → (En → Prop) → En → Prop} : seqR E (.tup xs) q = q xs (fun _ => True) E := rfl
theorem seq_str {q : List D → (En → Prop) → En → Prop} : seqR E (.str a) q = q (a.map fun c => .str [c]) (fun _ => True) E := rfl
theorem seq_ref {q : List D → (En → Prop) → En → Prop} (h : E p = some (.lst xs)) : seqR E (.ref p) q = q xs (fun E' => E' p = some (.lst xs)) E := by
  unfold seqR
  simp only [h]
theorem bm_app {o x : D} : bmR .append m E o [x] q = asC E o fun a xs => xs.length < 16777216 ∧ q .non (E.set a (.lst (xs ++ [x]))) := rfl
theorem bm_pop {o : D} : bmR .pop1 m E o [.int i] q = asC E o fun a xs => -(2 ^ 62) ≤ i ∧ i < 2 ^ 62 ∧ opt (ixN xs.length i) fun k => opt xs[k]? fun y => q y (E.set a (.lst (xs.eraseIdx k))) := rfl
theorem bm_clear {o : D} : bmR .clear m E o [] q = (([] : List D) = [] ∧ asC E o fun a _ => q .non (E.set a (.lst []))) := rfl
theorem bm_join {x : D} : bmR .join m E (.str a) [x] q = asL E x fun xs => opt (asStrs xs) fun ys => (ys.map List.length).sum + ys.length * a.length ≤ 16777216 ∧ q (.str (TL.joinL a ys)) E := rfl
theorem bm_split : bmR .split m E (.str a) [.str b] q = (b.length = 1 ∧ b.all (· < 256) = true ∧ a.length + 2 ≤ 16777216 ∧ newL m ((TL.spl b 0 [] a).map .str) E q) := rfl
theorem bm_ends : bmR .endswith m E (.str a) [.str b] q = (b ≠ [] ∧ q (.bl (decide (b <:+ a))) E) := rfl
theorem bmT_app {o : D} {P : Prop} : bmT .append E o P = asL E o fun _ => P := rfl
theorem bmT_pop {o : D} {P : Prop} : bmT .pop1 E o P = asL E o fun _ => P := rfl
theorem bmT_clear {o : D} {P : Prop} : bmT .clear E o P = asL E o fun _ => P := rfl
theorem bmT_join {P : Prop} : bmT .join E (.str a) P = P := rfl
theorem bmT_split {P : Prop} : bmT .split E (.str a) P = P := rfl
theorem bmT_ends {P : Prop} : bmT .endswith E (.str a) P = P := rfl
theorem newL_f : newL false xs E q = (xs.length ≤ 16777216 ∧ q (.lst xs) E) := by
  unfold newL
  simp only [Bool.false_eq_true, if_false]
theorem newL_t : newL true xs E q = (xs.length ≤ 16777216 ∧ ∀ p, E p = none → q (.ref p) (E.set p (.lst xs))) := by
  unfold newL
  simp only [if_true]
theorem bi_len {x : D} : biR .len m E [x] q = lenR E x q := rfl
theorem bi_all {x : D} : biR .all m E [x] q = asL E x fun xs => opt (asBls xs) fun bs => q (.bl (bs.all id)) E := rfl
theorem bi_any {x : D} : biR .any m E [x] q = asL E x fun xs => opt (asBls xs) fun bs => q (.bl (bs.any id)) E := rfl
theorem bi_abs : biR .abs m E [.int i] q = q (.int (if i < 0 then -i else i)) E := rfl
theorem bi_max : biR .max2 m E [.int i, .int j] q = q (.int (if j > i then j else i)) E := rfl
theorem bi_min : biR .min2 m E [.int i, .int j] q = q (.int (if j < i then j else i)) E := rfl
theorem bi_inti : biR .int m E [.int i] q = q (.int i) E := rfl
theorem bi_intb : biR .int m E [.bl c] q = q (.int (if c then 1 else 0)) E := rfl
theorem bi_ints : biR .int m E [.str a] q = ∃ n, PySem.intText? (toS a) = some n ∧ a.length ≤ 640 ∧ q (.int n) E := rfl
theorem bi_str : biR .str m E [.int i] q = (i.natAbs.log2 < 1920 ∧ q (.str (dec i)) E) := rfl
theorem bi_repr {x : D} : biR .repr m E [x] q = opt (dp E 4 x) fun p => isQ x ∧ (p.showable = true ∧ p.depth ≤ 64) ∧ p.shown.length ≤ 16777216 ∧ q (.str (TL.tl p.shown)) E := rfl
theorem bi_sorted {x : D} : biR .sorted m E [x] q = asL E x fun xs => sortR m E xs q := rfl
theorem bi_list {x : D} : biR .list m E [x] q = asQ E x fun xs => newL m xs E q := rfl
theorem tr_non {t : Ty} : tyR E .non t k = k false := rfl
theorem tr_bl {t : Ty} : tyR E (.bl c) t k = k (decide (t = .bool ∨ t = .int)) := rfl
theorem tr_int {t : Ty} : tyR E (.int i) t k = k (decide (t = .int)) := rfl
theorem tr_str {t : Ty} : tyR E (.str a) t k = k (decide (t = .str)) := rfl
theorem tr_tup {t : Ty} : tyR E (.tup xs) t k = k (decide (t = .tuple)) := rfl
theorem tr_lst {t : Ty} : tyR E (.lst xs) t k = k (decide (t = .list)) := rfl
theorem tr_ref {t : Ty} (h : E p = some (.lst xs)) : tyR E (.ref p) t k = k (decide (t = .list)) := by
  unfold tyR
  simp only [h]
theorem asI_i {k : Int → Prop} : asI (.int i) k = k i := rfl
theorem asB_b {k : Bool → Prop} : asB (.bl c) k = k c := rfl
theorem asS_s {k : List Nat → Prop} : asS (.str a) k = k a := rfl
theorem asT_t {k : List D → Prop} : asT (.tup xs) k = k xs := rfl
theorem optI_0 {k : Option Int → Prop} : optI [] k = k none := rfl
theorem optI_1 {k : Option Int → Prop} : optI [.int i] k = k (some i) := rfl
theorem sl_str {lo hi : Option Int} : slR m E (.str a) lo hi q = (a.length ≤ 16777216 ∧ q (.str (cut a lo hi)) E) := rfl
theorem sl_lst {lo hi : Option Int} : slR m E (.lst xs) lo hi q = newL m (cut xs lo hi) E q := rfl
theorem ex_le {Q : En → Prop} (h : Q E) : ∃ E2, E2.le E ∧ Q E2 := ⟨E, En.le_refl E, h⟩
end
/-! # comprehensions that change nothing -/
section
variable {tg : D → SD → En → (SD → En → Prop) → Prop} {cnd : SD → En → (Bool → En → Prop) → Prop} {elt : SD → En → QE → Prop} {G : En → Prop} {s : SD} {E : En}
theorem wLc_fm (f : D → Option D) (hG : G E) : ∀ (ds : List D) (q : List D → En → Prop), (∀ d ∈ ds, ∀ (q1 : QE) (q2 : En → Prop), (∀ y, f d = some y → q1 y E) → (f d = none → q2 E) → tg d s E fun s1 E1 => cnd s1 E1 fun b E2 => if b = true then elt s1 E2 q1 else q2 E2) →
    q (ds.filterMap f) E → wLc tg cnd elt G s ds E q
  | [], q, _, h => ⟨hG, h⟩
  | d :: ds, q, hs, h => by
    refine ⟨hG, hs d List.mem_cons_self (fun y E3 => wLc tg cnd elt G s ds E3 fun ys E4 => q (y :: ys) E4) (fun E2 => wLc tg cnd elt G s ds E2 q) (fun y hy => ?_) (fun hn => ?_)⟩
    · refine wLc_fm f hG ds _ (fun d hd => hs d (List.mem_cons_of_mem _ hd)) ?_
      rw [List.filterMap_cons, hy] at h
      exact h
    · refine wLc_fm f hG ds _ (fun d hd => hs d (List.mem_cons_of_mem _ hd)) ?_
      rw [List.filterMap_cons, hn] at h
      exact h
theorem wLc_map (f : D → D) (hG : G E) (ds : List D) (q : List D → En → Prop) (hs : ∀ d ∈ ds, ∀ (q1 : QE) (q2 : En → Prop), q1 (f d) E → tg d s E fun s1 E1 => cnd s1 E1 fun b E2 => if b = true then elt s1 E2 q1 else q2 E2)
    (h : q (ds.map f) E) : wLc tg cnd elt G s ds E q :=
  wLc_fm (fun d => some (f d)) hG ds q (fun d hd q1 q2 h1 _ => hs d hd q1 q2 (h1 _ rfl)) (by rw [List.filterMap_eq_map']; exact h)
end
theorem asStrs_map (ys : List (List Nat)) : asStrs (ys.map .str) = some ys := by
  induction ys with
  | nil => rfl
  | cons y ys ih => rw [List.map_cons]; unfold asStrs; rw [ih]; rfl
theorem asBls_map (ys : List Bool) : asBls (ys.map .bl) = some ys := by
  induction ys with
  | nil => rfl
  | cons y ys ih => rw [List.map_cons]; unfold asBls; rw [ih]; rfl
theorem cut_all {α : Type} (xs : List α) : cut xs none none = xs := by
  unfold cut HT.sIx
  simp
theorem sIx_n (n d k : Nat) : HT.sIx n d (some (k : Int)) = min k n := HT.sIx_nat n d k
theorem cut_to {α : Type} (xs : List α) (k : Nat) : cut xs none (some (k : Int)) = xs.take k := by
  unfold cut
  rw [sIx_n, HT.sIx_none, Nat.sub_zero, List.drop_zero]
  rcases Nat.le_total k xs.length with h | h
  · rw [Nat.min_eq_left h]
  · rw [Nat.min_eq_right h, List.take_length, List.take_of_length_le h]
theorem cut_from {α : Type} (xs : List α) (k : Nat) : cut xs (some (k : Int)) none = xs.drop k := by
  unfold cut
  rw [sIx_n, HT.sIx_none]
  rcases Nat.le_total k xs.length with h | h
  · rw [Nat.min_eq_left h, List.take_of_length_le (by rw [List.length_drop]; omega)]
  · rw [Nat.min_eq_right h, List.drop_length, List.drop_eq_nil_of_le h, List.take_nil]
theorem cut_ft {α : Type} (xs : List α) (j k : Nat) : cut xs (some (j : Int)) (some (k : Int)) = (xs.take k).drop j := by
  unfold cut
  rw [sIx_n, sIx_n]
  rw [List.drop_take]
  rcases Nat.le_total j xs.length with h | h
  · rw [Nat.min_eq_left h]
    rcases Nat.le_total k xs.length with h2 | h2
    · rw [Nat.min_eq_left h2]
    · rw [Nat.min_eq_right h2, List.take_of_length_le (by rw [List.length_drop]; omega), List.take_of_length_le (by rw [List.length_drop]; omega)]
  · rw [Nat.min_eq_right h, List.drop_length, List.drop_eq_nil_of_le h, List.take_nil, List.take_nil]
theorem rngD_len (lo : Int) (n : Nat) : (rngD lo n).length = n := by unfold rngD; simp
theorem rngD_mem {n : Nat} {d : D} {lo : Int} (h : d ∈ rngD lo n) : ∃ j : Nat, j < n ∧ d = .int (lo + j) := by
  unfold rngD at h
  obtain ⟨j, hj, e⟩ := List.mem_map.mp h
  exact ⟨j, List.mem_range.mp hj, e.symm⟩
theorem rngD_map {α : Type} (f : D → α) (n : Nat) : (rngD 0 n).map f = (List.range n).map fun (k : Nat) => f (.int (k : Int)) := by
  unfold rngD
  rw [List.map_map]
  refine List.map_congr_left fun k _ => ?_
  show f (.int (0 + (k : Int))) = _
  rw [Int.zero_add]
section
variable {E : En} {x : D} {xs : List D}
theorem asL_lv {k : List D → Prop} (h : lv E x = some xs) : asL E x k = k xs := by unfold asL; rw [h]
theorem asQ_lv {k : List D → Prop} (h : lv E x = some xs) : asQ E x k = k xs := by
  cases x with
  | tup _ => cases h
  | _ => exact asL_lv h
theorem lenR_lv {q : QE} (h : lv E x = some xs) : lenR E x q = q (.int xs.length) E := by
  cases x with
  | str _ => cases h
  | _ => exact asQ_lv (k := fun xs => q (.int xs.length) E) h
theorem ty_lv {t : Ty} {k : Bool → Prop} (h : lv E x = some xs) : tyR E x t k = k (decide (t = .list)) := by
  cases x with
  | lst _ => rfl
  | ref a =>
    unfold lv at h
    cases e : E a with
    | none => simp only [e] at h; cases h
    | some c => cases c with
      | lst ds => exact tr_ref e
      | ins _ _ => simp only [e] at h; cases h
  | _ => cases h
theorem seq_lv {q : List D → (En → Prop) → En → Prop} (h : lv E x = some xs) (hq : ∀ G, G E → q xs G E) : seqR E x q := by
  cases x with
  | lst _ => cases h; exact hq _ trivial
  | ref a =>
    unfold lv at h
    cases e : E a with
    | none => simp only [e] at h; cases h
    | some c => cases c with
      | lst ds =>
        simp only [e] at h
        cases h
        rw [seq_ref e]
        exact hq _ e
      | ins _ _ => simp only [e] at h; cases h
  | _ => cases h
theorem ixR_lv {i : Int} {q : QE} (h : lv E x = some xs) : ixR E x (.int i) q = opt (atI xs i) fun d => q d E := by
  cases x with
  | str _ => cases h
  | tup _ => cases h
  | _ => exact asQ_lv (k := fun ds => opt (atI ds i) fun d => q d E) h
theorem truR_lv {k : Bool → Prop} (h : lv E x = some xs) : truR E x k = k (!xs.isEmpty) := by
  cases x with
  | lst _ => cases h; rfl
  | ref a =>
    unfold lv at h
    cases e : E a with
    | none => simp only [e] at h; cases h
    | some c => cases c with
      | lst ds => simp only [e] at h; cases h; unfold truR; simp only [e]
      | ins _ _ => simp only [e] at h; cases h
  | _ => cases h
theorem in_lv {y : D} {k : Bool → Prop} (h : lv E y = some xs) (h1 : flat x = true) (h2 : xs.all flat = true) : inR E x y k = k (xs.any fun z => eqF z x) := by
  have : inR E x y k = (match lv E y with
    | some ds => if flat x && ds.all flat then k (ds.any fun z => eqF z x) else match dp E 4 x, dp E 4 y with
      | some p, some (.list ps) => SeqAt.shaped p = true ∧ SeqAt.shaped (.list ps) = true ∧ k (ps.any fun z => PyData.eqv z p)
      | _, _ => False
    | none => False) := by
    cases y with
    | str _ => cases h
    | tup _ => cases h
    | _ => rfl
  rw [this, h]
  simp only [h1, h2, Bool.and_self, if_true]
end
/-! # sorted -/
section
variable {α : Type}
def srt (key : α → List Nat) (l : List α) : List α := l.mergeSort fun a b => decide (¬ key b < key a)
theorem srt_perm (key : α → List Nat) (l : List α) : (srt key l).Perm l := List.mergeSort_perm l _
theorem nlt_trans {a b c : List Nat} (h1 : ¬ b < a) (h2 : ¬ c < b) : ¬ c < a := fun q => by
  by_cases h : c < b
  · exact h2 h
  · exact h1 (List.lt_of_le_of_lt (List.not_lt.mp h) q)
theorem srt_pw (key : α → List Nat) (l : List α) : (srt key l).Pairwise fun a b => ¬ key b < key a := by
  have := List.pairwise_mergeSort (le := fun a b => decide (¬ key b < key a)) (fun a b c h1 h2 => ?_) (fun a b => ?_) l
  · exact this.imp fun h => of_decide_eq_true h
  · exact decide_eq_true (nlt_trans (of_decide_eq_true h1) (of_decide_eq_true h2))
  · rw [Bool.or_eq_true]
    by_cases h : key b < key a
    · exact .inr (decide_eq_true fun q => List.lt_irrefl _ (List.lt_trans h q))
    · exact .inl (decide_eq_true h)
theorem key_eq {a b : List Nat} (h1 : ¬ a < b) (h2 : ¬ b < a) : a = b := List.le_antisymm (List.not_lt.mp h2) (List.not_lt.mp h1)
/-- there is one such list -/
theorem srt_uniq {key : α → List Nat} {l m : List α} (hp : l.Perm m) (hl : l.Pairwise fun a b => ¬ key b < key a) (hm : m.Pairwise fun a b => ¬ key b < key a) (hn : (l.map key).Nodup) : l = m :=
  List.Perm.eq_of_pairwise (le := fun a b => ¬ key b < key a) (fun a b ha hb h1 h2 => inj_of_nodup hn a ha b (hp.mem_iff.mpr hb) (key_eq h2 h1)) hl hm hp
theorem srt_map {β : Type} {key : α → List Nat} {key' : β → List Nat} {f : α → β} (hk : ∀ a, key' (f a) = key a) (l : List α) (hn : (l.map key).Nodup) : (srt key l).map f = srt key' (l.map f) := by
  refine srt_uniq (key := key') (((srt_perm key l).map f).trans (srt_perm key' (l.map f)).symm) ?_ (srt_pw _ _) ?_
  · rw [List.pairwise_map]
    exact (srt_pw key l).imp fun h => by rw [hk, hk]; exact h
  · rw [List.map_map]
    have : (key' ∘ f) = key := funext hk
    rw [this]
    exact ((srt_perm key l).map key).nodup_iff.mpr hn
theorem srt_len (key : α → List Nat) (l : List α) : (srt key l).length = l.length := (srt_perm key l).length_eq
theorem srt_mem {key : α → List Nat} {l : List α} {x : α} : x ∈ srt key l ↔ x ∈ l := (srt_perm key l).mem_iff
def keyD : D → List Nat
  | .str x => x
  | .tup (.str x :: _) => x
  | _ => []
theorem perm_map {α β : Type} {f : α → β} : ∀ {xs : List β} {ys : List α}, xs.Perm (ys.map f) → ∃ ws : List α, xs = ws.map f ∧ ws.Perm ys := by
  intro xs ys h
  generalize hz : ys.map f = zs at h
  induction h generalizing ys with
  | nil =>
    have : ys = [] := by simpa using hz
    subst this
    exact ⟨[], rfl, .refl _⟩
  | cons x _ ih => 
    cases ys with
    | nil => cases hz
    | cons y ys =>
      rw [List.map_cons] at hz
      cases hz
      obtain ⟨ws, e, p⟩ := ih rfl
      exact ⟨y :: ws, by rw [List.map_cons, e], p.cons y⟩
  | swap x y l =>
    match ys, hz with
    | a :: b :: ys, hz =>
      rw [List.map_cons, List.map_cons] at hz
      cases hz
      exact ⟨b :: a :: ys, rfl, List.Perm.swap _ _ _⟩
  | trans _ _ ih1 ih2 =>
    obtain ⟨w2, e2, p2⟩ := ih2 hz
    obtain ⟨w1, e1, p1⟩ := ih1 e2.symm
    exact ⟨w1, e1, p1.trans p2⟩
/-- sorted of tuples that begin with different texts -/
theorem sort_tup {E : En} {m : Bool} {q : QE} (f : α → D) (key : α → List Nat) (hf : ∀ a, ∃ r, f a = .tup (.str (key a) :: r)) (l : List α) (hn : (l.map key).Nodup) (hl : l.length ≤ 16777216) (h : newL m ((srt key l).map f) E q) : sortR m E (l.map f) q := by
  have hk : ∀ a, keyD (f a) = key a := fun a => by obtain ⟨r, e⟩ := hf a; rw [e]; rfl
  refine ⟨by rw [List.length_map]; exact hl, ⟨keyD, .inr ⟨fun d hd => ?_, ?_⟩⟩, fun ys hp hw => ?_⟩
  · obtain ⟨a, _, rfl⟩ := List.mem_map.mp hd
    obtain ⟨r, e⟩ := hf a
    exact ⟨r, by rw [hk, e]⟩
  · rw [List.map_map, show (keyD ∘ f) = key from funext hk]
    exact hn
  · obtain ⟨ws, rfl, hp2⟩ := perm_map hp
    have : ws = srt key l := by
      refine srt_uniq (hp2.trans (srt_perm key l).symm) ?_ (srt_pw _ _) ((hp2.map key).nodup_iff.mpr hn)
      rw [List.pairwise_map] at hw
      refine hw.imp fun {a b} z => ?_
      obtain ⟨r, e⟩ := hf a
      obtain ⟨r', e'⟩ := hf b
      rw [e, e'] at z
      have z2 : (if key b = key a then none else some (ltS (key b) (key a))).getD false = false := z
      by_cases ee : key b = key a
      · rw [ee]; exact List.lt_irrefl _
      · rw [if_neg ee] at z2
        exact of_decide_eq_false z2
    rw [this]
    exact h
/-- sorted of texts -/
theorem sort_str {E : En} {m : Bool} {q : QE} (l : List (List Nat)) (hn : l.Nodup) (hl : l.length ≤ 16777216) (h : newL m ((srt id l).map .str) E q) : sortR m E (l.map .str) q := by
  refine ⟨by rw [List.length_map]; exact hl, ⟨keyD, .inl fun d hd => ?_⟩, fun ys hp hw => ?_⟩
  · obtain ⟨a, _, rfl⟩ := List.mem_map.mp hd
    rfl
  · obtain ⟨ws, rfl, hp2⟩ := perm_map hp
    have : ws = srt id l := by
      refine srt_uniq (key := id) (hp2.trans (srt_perm id l).symm) ?_ (srt_pw _ _) (by rw [List.map_id]; exact hp2.nodup_iff.mpr hn)
      rw [List.pairwise_map] at hw
      exact hw.imp fun z => of_decide_eq_false z
    rw [this]
    exact h
end
theorem asBls_one (xs : List D) : asBls (xs.map fun _ => D.bl true) = some (xs.map fun _ => true) := by
  induction xs with
  | nil => rfl
  | cons d xs ih => rw [List.map_cons]; unfold asBls; rw [ih]; rfl
theorem all_one (xs : List D) : ((xs.map fun _ => true).all id) = true := by simp
theorem nodup_len {α : Type} [DecidableEq α] : ∀ {a b : List α}, a.Nodup → (∀ x ∈ a, x ∈ b) → a.length ≤ b.length
  | [], _, _, _ => Nat.zero_le _
  | x :: a, b, h, hs => by
    obtain ⟨h1, h2⟩ := List.nodup_cons.mp h
    have hx : x ∈ b := hs x List.mem_cons_self
    have := nodup_len (a := a) (b := b.erase x) h2 fun y hy => (List.mem_erase_of_ne (fun e => h1 (by rw [← e]; exact hy))).mpr (hs y (List.mem_cons_of_mem _ hy))
    rw [List.length_erase_of_mem hx] at this
    have : 0 < b.length := List.length_pos_of_mem hx
    rw [List.length_cons]
    omega
end DL

set_option Elab.async false
set_option linter.all false
set_option maxRecDepth 100000
namespace KX
open PySem L2 DL
/-! # the program as IR (printed by gen.py) -/
def b0 : Sms :=
(.cons (.ret (.and (.isi (.var 0) .int) (.and (.not (.isi (.var 0) .bool)) (.cmp .ge (.var 0) (.int 0))))) .nil)
def n0 : List Str := ["thing"]
def p0 : List Str := ["thing"]
def c1_0 : Ex := (.cmp .isin (.var 1) (.glb 0))
def b1 : Sms :=
(.cons (.ret (.and (.isi (.var 0) .str) (.and (.chn .le .le (.int 1) (.bi .len false (.cons (.var 0) .nil)) (.glb 1)) (.bi .all false (.cons (.lc false [1] c1_0 (.nm 1) (.seq (.var 0)) .nil) .nil))))) .nil)
def n1 : List Str := ["thing", "sign"]
def p1 : List Str := ["thing"]
def b2 : Sms :=
(.cons (.ret (.and (.isi (.var 0) .tuple) (.and (.cmp .eq (.bi .len false (.cons (.var 0) .nil)) (.int 2)) (.and (.call 1 (.cons (.ix (.var 0) (.int 0)) .nil)) (.isi (.ix (.var 0) (.int 1)) .bool))))) .nil)
def n2 : List Str := ["thing"]
def p2 : List Str := ["thing"]
def c3_0 : Ex := (.call 1 (.cons (.var 2) .nil))
def c3_1 : Ex := (.cmp .isin (.var 2) (.var 1))
def b3 : Sms :=
(.cons (.ite (.or (.not (.val (.isi (.var 0) .list))) (.not (.val (.bi .all false (.cons (.lc false [2] c3_0 (.nm 2) (.seq (.var 0)) .nil) .nil)))))
(.cons (.ret (.bl false)) .nil)
.nil)
(.cons (.ret (.and (.cmp .eq (.lenset (.var 0)) (.bi .len false (.cons (.var 0) .nil))) (.bi .all false (.cons (.lc false [2] c3_1 (.nm 2) (.seq (.var 0)) .nil) .nil)))) .nil))
def n3 : List Str := ["thing", "guests", "guest"]
def p3 : List Str := ["thing", "guests"]
def b4 : Sms :=
(.cons (.ite (.or (.not (.val (.isi (.var 0) .tuple))) (.or (.val (.cmp .ne (.bi .len false (.cons (.var 0) .nil)) (.int 3))) (.not (.val (.call 1 (.cons (.ix (.var 0) (.int 0)) .nil))))))
(.cons (.ret (.bl false)) .nil)
.nil)
(.cons (.ret (.and (.call 0 (.cons (.ix (.var 0) (.int 1)) .nil)) (.call 3 (.cons (.ix (.var 0) (.int 2)) (.cons (.var 1) .nil))))) .nil))
def n4 : List Str := ["thing", "guests"]
def p4 : List Str := ["thing", "guests"]
def c5_0 : Ex := (.isi (.var 7) .list)
def c5_1 : Ex := (.call 2 (.cons (.var 6) .nil))
def c5_2 : Ex := (.var 4)
def c5_3 : Ex := (.call 4 (.cons (.var 6) (.cons (.var 1) .nil)))
def c5_4 : Ex := (.ix (.var 6) (.int 0))
def b5 : Sms :=
(.cons (.ite (.or (.not (.val (.isi (.var 0) .tuple))) (.or (.val (.cmp .ne (.bi .len false (.cons (.var 0) .nil)) (.int 2))) (.not (.val (.bi .all false (.cons (.lc false [7] c5_0 (.nm 7) (.seq (.var 0)) .nil) .nil))))))
(.cons (.ret (.bl false)) .nil)
.nil)
(.cons (.asg (.tup (.cons (.nm 2) (.cons (.nm 3) .nil))) (.var 0))
(.cons (.ite (.not (.val (.bi .all false (.cons (.lc false [6] c5_1 (.nm 6) (.seq (.var 3)) .nil) .nil))))
(.cons (.ret (.bl false)) .nil)
.nil)
(.cons (.asg (.nm 1) (.lc false [4, 5] c5_2 (.tup (.cons (.nm 4) (.cons (.nm 5) .nil))) (.seq (.var 3)) .nil))
(.cons (.ite (.not (.val (.bi .all false (.cons (.lc false [6] c5_3 (.nm 6) (.seq (.var 2)) .nil) .nil))))
(.cons (.ret (.bl false)) .nil)
.nil)
(.cons (.asg (.nm 1) (.bin .add false (.var 1) (.lc false [6] c5_4 (.nm 6) (.seq (.var 2)) .nil)))
(.cons (.ret (.cmp .eq (.lenset (.var 1)) (.bi .len false (.cons (.var 1) .nil)))) .nil)))))))
def n5 : List Str := ["thing", "names", "houses", "guests", "name", "wishes", "row", "part"]
def p5 : List Str := ["thing"]
def b6 : Sms :=
(.cons (.ite (.not (.val (.var 0)))
(.cons (.rse 1) .nil)
.nil) .nil)
def n6 : List Str := ["good"]
def p6 : List Str := ["good"]
def b7 : Sms :=
(.cons (.asg (.nm 1) (.bi .str false (.cons (.var 0) .nil)))
(.cons (.exp (.call 6 (.cons (.cmp .le (.bi .len false (.cons (.var 1) .nil)) (.glb 3)) .nil)))
(.cons (.ret (.var 1)) .nil)))
def n7 : List Str := ["number", "word"]
def p7 : List Str := ["number"]
def c8_0 : Ex := (.cmp .isin (.var 1) (.glb 2))
def b8 : Sms :=
(.cons (.exp (.call 6 (.cons (.and (.chn .le .le (.int 1) (.bi .len false (.cons (.var 0) .nil)) (.glb 3)) (.bi .all false (.cons (.lc false [1] c8_0 (.nm 1) (.seq (.var 0)) .nil) .nil))) .nil)))
(.cons (.exp (.call 6 (.cons (.or (.cmp .eq (.var 0) (.str [48])) (.cmp .ne (.ix (.var 0) (.int 0)) (.str [48]))) .nil)))
(.cons (.ret (.bi .int false (.cons (.var 0) .nil))) .nil)))
def n8 : List Str := ["word", "sign"]
def p8 : List Str := ["word"]
def b9 : Sms :=
(.cons (.exp (.call 6 (.cons (.isi (.var 0) .str) .nil)))
(.cons (.ret (.bm .split false (.var 0) (.cons (.str [32]) .nil))) .nil))
def n9 : List Str := ["text"]
def p9 : List Str := ["text"]
def c10_0 : Ex := (.bm .join false (.str [32]) (.cons (.bin .add false (.lst false (.cons (.glb 4) (.cons (.var 4) (.cons (.bin .add false (.call 7 (.cons (.var 5) .nil)) (.str [58])) .nil)))) (.var 6)) .nil))
def c10_1 : Ex := (.bm .join false (.str [32]) (.cons (.bin .add false (.lst false (.cons (.glb 5) (.cons (.var 4) .nil))) (.bin .mul false (.lst false (.cons (.glb 6) .nil)) (.var 7))) .nil))
def b10 : Sms :=
(.cons (.exp (.call 6 (.cons (.call 5 (.cons (.var 0) .nil)) .nil)))
(.cons (.asg (.tup (.cons (.nm 2) (.cons (.nm 3) .nil))) (.var 0))
(.cons (.asg (.nm 1) (.lc true [4, 5, 6] c10_0 (.tup (.cons (.nm 4) (.cons (.nm 5) (.cons (.nm 6) .nil)))) (.seq (.bi .sorted false (.cons (.var 2) .nil))) .nil))
(.cons (.aug 1 .add (.lc false [4, 7] c10_1 (.tup (.cons (.nm 4) (.cons (.nm 7) .nil))) (.seq (.bi .sorted false (.cons (.var 3) .nil))) .nil))
(.cons (.ret (.bm .join false (.str [10]) (.cons (.var 1) .nil))) .nil)))))
def n10 : List Str := ["world", "rows", "houses", "guests", "name", "room", "order", "wishes"]
def p10 : List Str := ["world"]
def b11 : Sms :=
(.cons (.exp (.call 6 (.cons (.and (.cmp .gt (.bi .len false (.cons (.var 0) .nil)) (.int 2)) (.bm .endswith false (.ix (.var 0) (.int 2)) (.cons (.str [58]) .nil))) .nil)))
(.cons (.ret (.tup (.cons (.ix (.var 0) (.int 1)) (.cons (.call 8 (.cons (.sl false (.ix (.var 0) (.int 2)) .nil (.cons (.neg (.int 1)) .nil)) .nil)) (.cons (.sl true (.var 0) (.cons (.int 3) .nil) .nil) .nil))))) .nil))
def n11 : List Str := ["words"]
def p11 : List Str := ["words"]
def b12 : Sms :=
(.cons (.exp (.call 6 (.cons (.or (.cmp .eq (.bi .len false (.cons (.var 0) .nil)) (.int 2)) (.and (.cmp .eq (.bi .len false (.cons (.var 0) .nil)) (.int 3)) (.cmp .eq (.ix (.var 0) (.int 2)) (.glb 6)))) .nil)))
(.cons (.ret (.tup (.cons (.ix (.var 0) (.int 1)) (.cons (.cmp .eq (.bi .len false (.cons (.var 0) .nil)) (.int 3)) .nil)))) .nil))
def n12 : List Str := ["words"]
def p12 : List Str := ["words"]
def c13_0 : Ex := (.call 9 (.cons (.var 5) .nil))
def c13_1 : Ex := (.cmp .isin (.ix (.var 4) (.int 0)) (.tup (.cons (.glb 4) (.cons (.glb 5) .nil))))
def c13_2 : Ex := (.call 11 (.cons (.var 4) .nil))
def t13_2 : Txs := (.one (.val (.cmp .eq (.ix (.var 4) (.int 0)) (.glb 4))))
def c13_3 : Ex := (.call 12 (.cons (.var 4) .nil))
def t13_3 : Txs := (.one (.val (.cmp .eq (.ix (.var 4) (.int 0)) (.glb 5))))
def b13 : Sms :=
(.cons (.exp (.call 6 (.cons (.isi (.var 0) .str) .nil)))
(.cons (.asg (.nm 1) (.ite (.val (.cmp .ne (.var 0) (.str []))) (.lc false [5] c13_0 (.nm 5) (.seq (.bm .split false (.var 0) (.cons (.str [10]) .nil))) .nil) (.lst false .nil)))
(.cons (.exp (.call 6 (.cons (.bi .all false (.cons (.lc false [4] c13_1 (.nm 4) (.seq (.var 1)) .nil) .nil)) .nil)))
(.cons (.asg (.nm 2) (.lc true [4] c13_2 (.nm 4) (.seq (.var 1)) t13_2))
(.cons (.asg (.nm 3) (.lc true [4] c13_3 (.nm 4) (.seq (.var 1)) t13_3))
(.cons (.exp (.call 6 (.cons (.and (.call 5 (.cons (.tup (.cons (.var 2) (.cons (.var 3) .nil))) .nil)) (.cmp .eq (.call 10 (.cons (.tup (.cons (.var 2) (.cons (.var 3) .nil))) .nil)) (.var 0))) .nil)))
(.cons (.ret (.tup (.cons (.var 2) (.cons (.var 3) .nil)))) .nil)))))))
def n13 : List Str := ["text", "rows", "houses", "guests", "words", "row"]
def p13 : List Str := ["text"]
def f14_0 : Sms :=
(.cons (.asg (.nm 1) (.bin .add false (.bin .mul false (.var 1) (.bin .pow false (.bin .pow false (.int 10) (.int 40)) (.int 10))) (.bin .mod false (.bi .max2 false (.cons (.int 0) (.cons (.bin .sub false (.bi .abs false (.cons (.var 3) .nil)) (.bin .pow false (.int 10) (.int 18))) .nil))) (.bin .pow false (.bin .pow false (.int 10) (.int 40)) (.int 10)))))
(.cons (.asg (.nm 2) (.bin .mod false (.bin .add false (.bin .add false (.bin .mul false (.var 2) (.int 48271)) (.var 3)) (.int 131)) (.int 170141183460469231731687303715884105727))) .nil))
def b14 : Sms :=
(.cons (.asg (.nm 1) (.int 0))
(.cons (.asg (.nm 2) (.int 161803))
(.cons (.for (.nm 3) (.seq (.sl false (.var 0) .nil (.cons (.int 50) .nil))) f14_0)
(.cons (.ret (.lst true (.cons (.var 1) (.cons (.var 2) (.cons (.int 0) .nil))))) .nil))))
def n14 : List Str := ["_law_script", "_law_figures", "_law_blend", "_law_cell"]
def p14 : List Str := ["_law_script"]
def b15 : Sms :=
(.cons (.ite (.val (.cmp .gt (.ix (.var 0) (.int 0)) (.int 0)))
(.cons (.asg (.nm 3) (.bin .mod false (.ix (.var 0) (.int 0)) (.var 1)))
(.cons (.asg (.sub (.var 0) (.int 0)) (.bin .fdiv false (.ix (.var 0) (.int 0)) (.var 1)))
(.cons (.ret (.var 3)) .nil)))
.nil)
(.cons (.asg (.sub (.var 0) (.int 2)) (.bin .add false (.ix (.var 0) (.int 2)) (.int 1)))
(.cons (.asg (.nm 2) (.bin .mod false (.bin .pow false (.bin .add false (.ix (.var 0) (.int 1)) (.bin .mul false (.int 15485863) (.ix (.var 0) (.int 2)))) (.int 3)) (.int 618970019642690137449562111)))
(.cons (.asg (.nm 2) (.bin .mod false (.bin .pow false (.bin .add false (.var 2) (.bin .mul false (.int 257) (.bin .pow false (.ix (.var 0) (.int 2)) (.int 2)))) (.int 3)) (.int 162259276829213363391578010288127)))
(.cons (.ret (.bin .mod false (.bin .fdiv false (.var 2) (.int 65537)) (.var 1))) .nil)))))
def n15 : List Str := ["_law_pot_here", "_law_many", "_law_big", "_law_found"]
def p15 : List Str := ["_law_pot_here", "_law_many"]
def c16_0 : Ex := (.bin .add false (.bin .add false (.ix (.var 3) (.bin .fdiv false (.var 4) (.int 26))) (.str [113])) (.ix (.var 3) (.bin .mod false (.var 4) (.int 26))))
def c16_1 : Ex := (.bm .pop1 false (.var 2) (.cons (.call 15 (.cons (.var 0) (.cons (.bi .len false (.cons (.var 2) .nil)) .nil))) .nil))
def b16 : Sms :=
(.cons (.asg (.nm 2) (.lst false (.cons (.str [105, 110]) (.cons (.str [111, 117, 116]) (.cons (.str [99, 108, 101, 97, 114]) (.cons (.str [98, 97, 114, 114, 101, 100]) (.cons (.str [111, 112, 101, 110]) (.cons (.str [104, 101, 97, 114, 100]) (.cons (.str [99, 104, 97, 105, 114]) (.cons (.str [98, 97, 99, 107]) (.cons (.str [119, 105, 115, 104, 101, 115]) (.cons (.str [104, 111, 117, 115, 101]) (.cons (.str [103, 117, 101, 115, 116]) (.cons (.str [119, 105, 115, 104]) (.cons (.str [97]) .nil)))))))))))))))
(.cons (.asg (.nm 2) (.bin .add false (.var 2) (.lst false (.cons (.str [97, 110]) (.cons (.str [97, 110, 110]) (.cons (.str [97, 110, 110, 97]) (.cons (.str [98, 111]) (.cons (.str [122, 122, 122, 122, 122, 122, 122, 122]) (.cons (.str [122]) (.cons (.str [101, 105, 103, 104, 116, 108, 101, 116]) .nil))))))))))
(.cons (.asg (.nm 3) (.str [97, 98, 99, 100, 101, 102, 103, 104, 105, 106, 107, 108, 109, 110, 111, 112, 113, 114, 115, 116, 117, 118, 119, 120, 121, 122]))
(.cons (.asg (.nm 2) (.bin .add true (.var 2) (.lc false [4] c16_0 (.nm 4) (.rng1 (.bi .max2 false (.cons (.int 0) (.cons (.bin .sub false (.var 1) (.int 20)) .nil)))) .nil)))
(.cons (.ret (.lc false [4] c16_1 (.nm 4) (.rng1 (.var 1)) .nil)) .nil)))))
def n16 : List Str := ["_law_pot_here", "_law_many", "_law_left", "_law_letters", "_law_k"]
def p16 : List Str := ["_law_pot_here", "_law_many"]
def c17_0 : Ex := (.bm .pop1 false (.var 3) (.cons (.call 15 (.cons (.var 0) (.cons (.bi .len false (.cons (.var 3) .nil)) .nil))) .nil))
def b17 : Sms :=
(.cons (.asg (.nm 3) (.bi .list true (.cons (.var 1) .nil)))
(.cons (.ret (.lc false [4] c17_0 (.nm 4) (.rng1 (.bi .min2 false (.cons (.bi .len false (.cons (.var 3) .nil)) (.cons (.call 15 (.cons (.var 0) (.cons (.bin .add false (.var 2) (.int 1)) .nil))) .nil)))) .nil)) .nil))
def n17 : List Str := ["_law_pot_here", "_law_guests", "_law_most", "_law_left", "_law_k"]
def p17 : List Str := ["_law_pot_here", "_law_guests", "_law_most"]
def c18_0 : Ex := (.call 15 (.cons (.var 0) (.cons (.bin .add false (.var 1) (.int 1)) .nil)))
def c18_1 : Ex := (.tup (.cons (.var 6) (.cons (.cmp .gt (.call 15 (.cons (.var 0) (.cons (.int 4) .nil))) (.int 0)) .nil)))
def f18_2 : Sms :=
(.cons (.asg (.nm 7) (.ix (.lst false (.cons (.int 0) (.cons (.int 1) (.cons (.int 1) (.cons (.int 2) (.cons (.bin .add false (.ix (.var 2) (.int 1)) (.int 1)) (.cons (.bin .sub false (.bin .pow false (.int 10) (.int 9)) (.int 1)) .nil))))))) (.call 15 (.cons (.var 0) (.cons (.int 6) .nil)))))
(.cons (.exp (.bm .append false (.var 5) (.cons (.tup (.cons (.var 6) (.cons (.var 7) (.cons (.call 17 (.cons (.var 0) (.cons (.sl false (.var 3) .nil (.cons (.ix (.var 2) (.int 1)) .nil)) (.cons (.ix (.var 2) (.int 1)) .nil)))) .nil)))) .nil))) .nil))
def b18 : Sms :=
(.cons (.asg (.nm 2) (.lc false [8] c18_0 (.nm 8) (.rng1 (.int 2)) .nil))
(.cons (.asg (.nm 3) (.call 16 (.cons (.var 0) (.cons (.bin .add false (.ix (.var 2) (.int 0)) (.ix (.var 2) (.int 1))) .nil))))
(.cons (.asg (.nm 4) (.lc false [6] c18_1 (.nm 6) (.seq (.sl false (.var 3) .nil (.cons (.ix (.var 2) (.int 1)) .nil))) .nil))
(.cons (.asg (.nm 5) (.lst true .nil))
(.cons (.for (.nm 6) (.seq (.sl false (.var 3) (.cons (.ix (.var 2) (.int 1)) .nil) .nil)) f18_2)
(.cons (.ret (.tup (.cons (.fz (.var 5)) (.cons (.var 4) .nil)))) .nil))))))
def n18 : List Str := ["_law_pot_here", "_law_most", "_law_many", "_law_names_here", "_law_guests", "_law_houses", "_law_name", "_law_room", "_law_k"]
def p18 : List Str := ["_law_pot_here", "_law_most"]
def f19_0 : Sms :=
(.cons (.asg (.nm 5) (.bin .add false (.bin .add false (.var 5) (.str [32])) (.var 6))) .nil)
def f19_1 : Sms :=
(.cons (.asg (.nm 5) (.bin .add false (.bin .add false (.bin .add false (.bin .add false (.str [104, 111, 117, 115, 101, 32]) (.var 2)) (.str [32])) (.bi .str false (.cons (.var 3) .nil))) (.str [58])))
(.cons (.for (.nm 6) (.seq (.var 4)) f19_0)
(.cons (.exp (.bm .append false (.var 1) (.cons (.var 5) .nil))) .nil)))
def f19_2 : Sms :=
(.cons (.exp (.bm .append false (.var 1) (.cons (.bin .add false (.bin .add false (.str [103, 117, 101, 115, 116, 32]) (.var 2)) (.bin .mul false (.str [32, 119, 105, 115, 104, 101, 115]) (.bi .int false (.cons (.var 7) .nil)))) .nil))) .nil)
def b19 : Sms :=
(.cons (.asg (.nm 1) (.lst true .nil))
(.cons (.for (.tup (.cons (.nm 2) (.cons (.nm 3) (.cons (.nm 4) .nil)))) (.seq (.bi .sorted false (.cons (.ix (.var 0) (.int 0)) .nil))) f19_1)
(.cons (.for (.tup (.cons (.nm 2) (.cons (.nm 7) .nil))) (.seq (.bi .sorted false (.cons (.ix (.var 0) (.int 1)) .nil))) f19_2)
(.cons (.ret (.bm .join false (.str [10]) (.cons (.var 1) .nil))) .nil))))
def n19 : List Str := ["_law_world", "_law_rows", "_law_name", "_law_room", "_law_order_here", "_law_row", "_law_guest", "_law_wishes"]
def p19 : List Str := ["_law_world"]
def c20_0 : Ex := (.tup (.cons (.var 7) (.cons (.cmp .eq (.call 15 (.cons (.var 0) (.cons (.int 2) .nil))) (.int 0)) .nil)))
def c20_1 : Ex := (.tup (.cons (.var 7) (.cons (.call 15 (.cons (.var 0) (.cons (.int 3) .nil))) (.cons (.call 17 (.cons (.var 0) (.cons (.sl false (.var 1) (.cons (.var 2) .nil) .nil) (.cons (.int 2) .nil)))) .nil))))
def b20 : Sms :=
(.cons (.asg (.nm 1) (.call 16 (.cons (.var 0) (.cons (.bin .add false (.int 30) (.call 15 (.cons (.var 0) (.cons (.int 15) .nil)))) .nil))))
(.cons (.asg (.nm 2) (.bin .add false (.int 6) (.call 15 (.cons (.var 0) (.cons (.int 6) .nil)))))
(.cons (.asg (.nm 3) (.lc false [7] c20_0 (.nm 7) (.seq (.sl false (.var 1) (.cons (.var 2) .nil) .nil)) .nil))
(.cons (.asg (.nm 4) (.call 17 (.cons (.var 0) (.cons (.sl false (.var 1) (.cons (.var 2) .nil) .nil) (.cons (.bi .len false (.cons (.var 1) .nil)) .nil)))))
(.cons (.asg (.nm 5) (.lst false (.cons (.tup (.cons (.ix (.var 1) (.int 0)) (.cons (.call 15 (.cons (.var 0) (.cons (.bin .pow false (.int 10) (.int 9)) .nil))) (.cons (.var 4) .nil)))) .nil)))
(.cons (.asg (.nm 5) (.bin .add false (.var 5) (.lc false [7] c20_1 (.nm 7) (.seq (.sl false (.var 1) (.cons (.int 1) .nil) (.cons (.var 2) .nil))) .nil)))
(.cons (.asg (.nm 6) (.call 19 (.cons (.tup (.cons (.var 5) (.cons (.var 3) .nil))) .nil)))
(.cons (.ite (.val (.cmp .gt (.bi .len false (.cons (.var 6) .nil)) (.int 2000)))
(.cons (.ret (.bl true)) .nil)
.nil)
(.cons (.ret (.and (.cmp .eq (.call 10 (.cons (.tup (.cons (.var 5) (.cons (.var 3) .nil))) .nil)) (.var 6)) (.cmp .eq (.call 13 (.cons (.var 6) .nil)) (.tup (.cons (.bi .sorted false (.cons (.var 5) .nil)) (.cons (.bi .sorted false (.cons (.var 3) .nil)) .nil)))))) .nil)))))))))
def n20 : List Str := ["_law_pot_here", "_law_names_here", "_law_many", "_law_guests", "_law_line", "_law_houses", "_law_due", "_law_name"]
def p20 : List Str := ["_law_pot_here"]
def f21_0 : Sms :=
(.cons (.exp (.bm .append false (.var 12) (.cons (.str [110, 111]) .nil))) .nil)
def f21_1 : Sms :=
(.cons (.asg (.nm 9) (.call 13 (.cons (.var 5) .nil)))
(.cons (.ite (.val (.cmp .ne (.bi .repr false (.cons (.var 9) .nil)) (.bi .repr false (.cons (.var 6) .nil))))
(.cons (.ret (.bl false)) .nil)
.nil)
(.cons (.for (.tup (.cons (.nm 10) (.cons (.nm 11) (.cons (.nm 12) .nil)))) (.seq (.ix (.var 9) (.int 0))) f21_0)
(.cons (.exp (.bm .clear false (.ix (.var 9) (.int 0)) .nil))
(.cons (.exp (.bm .append false (.ix (.var 9) (.int 1)) (.cons (.str [110, 111]) .nil))) .nil)))))
def f21_2 : Sms :=
(.cons (.asg (.nm 3) (.call 18 (.cons (.var 1) (.cons (.ix (.lst false (.cons (.int 2) (.cons (.int 9) .nil))) (.call 15 (.cons (.var 1) (.cons (.int 2) .nil)))) .nil))))
(.cons (.asg (.nm 4) (.bi .repr false (.cons (.var 3) .nil)))
(.cons (.asg (.nm 5) (.call 19 (.cons (.var 3) .nil)))
(.cons (.asg (.nm 6) (.tup (.cons (.bi .sorted false (.cons (.ix (.var 3) (.int 0)) .nil)) (.cons (.bi .sorted false (.cons (.ix (.var 3) (.int 1)) .nil)) .nil))))
(.cons (.ite (.val (.cmp .lt (.bi .len false (.cons (.var 5) .nil)) (.int 2001)))
(.cons (.ite (.or (.val (.cmp .ne (.call 10 (.cons (.var 3) .nil)) (.var 5))) (.or (.val (.cmp .ne (.call 10 (.cons (.var 6) .nil)) (.var 5))) (.val (.cmp .ne (.bi .repr false (.cons (.var 3) .nil)) (.var 4)))))
(.cons (.ret (.bl false)) .nil)
.nil)
(.cons (.for (.nm 7) (.rng1 (.int 2)) f21_1)
(.cons (.asg (.nm 8) (.tup (.cons (.rev false (.ix (.var 3) (.int 0))) (.cons (.rev false (.ix (.var 3) (.int 1))) .nil))))
(.cons (.ite (.val (.cmp .ne (.call 10 (.cons (.var 8) .nil)) (.var 5)))
(.cons (.ret (.bl false)) .nil)
.nil) .nil))))
.nil) .nil)))))
def b21 : Sms :=
(.cons (.asg (.nm 1) (.call 14 (.cons (.var 0) .nil)))
(.cons (.ite (.not (.val (.call 20 (.cons (.var 1) .nil))))
(.cons (.ret (.bl false)) .nil)
.nil)
(.cons (.for (.nm 2) (.rng1 (.int 5)) f21_2)
(.cons (.ret (.and (.cmp .eq (.call 10 (.cons (.tup (.cons (.lst false .nil) (.cons (.lst false .nil) .nil))) .nil)) (.str [])) (.cmp .eq (.call 13 (.cons (.str []) .nil)) (.tup (.cons (.lst false .nil) (.cons (.lst false .nil) .nil)))))) .nil))))
def n21 : List Str := ["_law_script", "_law_pot_here", "_law_lap", "_law_world", "_law_kept", "_law_due", "_law_ordered", "_law_turn", "_law_other", "_law_told", "_law_name", "_law_room", "_law_order_here"]
def p21 : List Str := ["_law_script"]
abbrev i_is_count : Nat := 0
abbrev i_is_name : Nat := 1
abbrev i_is_guest_row : Nat := 2
abbrev i_is_order : Nat := 3
abbrev i_is_house_row : Nat := 4
abbrev i_is_world : Nat := 5
abbrev i_need_text : Nat := 6
abbrev i_number_shown : Nat := 7
abbrev i_number_in : Nat := 8
abbrev i_words_in : Nat := 9
abbrev i_show_world : Nat := 10
abbrev i_house_in : Nat := 11
abbrev i_guest_in : Nat := 12
abbrev i_read_world : Nat := 13
abbrev i__law_pot : Nat := 14
abbrev i__law_scoop : Nat := 15
abbrev i__law_names : Nat := 16
abbrev i__law_order : Nat := 17
abbrev i__law_town : Nat := 18
abbrev i__law_world_text : Nat := 19
abbrev i__law_wide_right : Nat := 20
abbrev i_law : Nat := 21
def fnT : Nat → Option Fn
  | 0 => some ⟨1, 1, b0⟩
  | 1 => some ⟨1, 2, b1⟩
  | 2 => some ⟨1, 1, b2⟩
  | 3 => some ⟨2, 3, b3⟩
  | 4 => some ⟨2, 2, b4⟩
  | 5 => some ⟨1, 8, b5⟩
  | 6 => some ⟨1, 1, b6⟩
  | 7 => some ⟨1, 2, b7⟩
  | 8 => some ⟨1, 2, b8⟩
  | 9 => some ⟨1, 1, b9⟩
  | 10 => some ⟨1, 8, b10⟩
  | 11 => some ⟨1, 1, b11⟩
  | 12 => some ⟨1, 1, b12⟩
  | 13 => some ⟨1, 6, b13⟩
  | 14 => some ⟨1, 4, b14⟩
  | 15 => some ⟨2, 4, b15⟩
  | 16 => some ⟨2, 5, b16⟩
  | 17 => some ⟨3, 5, b17⟩
  | 18 => some ⟨2, 9, b18⟩
  | 19 => some ⟨1, 8, b19⟩
  | 20 => some ⟨1, 8, b20⟩
  | 21 => some ⟨1, 13, b21⟩
  | _ => none
def fnN : Nat → Str
  | 0 => "is_count"
  | 1 => "is_name"
  | 2 => "is_guest_row"
  | 3 => "is_order"
  | 4 => "is_house_row"
  | 5 => "is_world"
  | 6 => "need_text"
  | 7 => "number_shown"
  | 8 => "number_in"
  | 9 => "words_in"
  | 10 => "show_world"
  | 11 => "house_in"
  | 12 => "guest_in"
  | 13 => "read_world"
  | 14 => "_law_pot"
  | 15 => "_law_scoop"
  | 16 => "_law_names"
  | 17 => "_law_order"
  | 18 => "_law_town"
  | 19 => "_law_world_text"
  | 20 => "_law_wide_right"
  | 21 => "law"
  | _ => ""
def glN : Nat → Str
  | 0 => "LETTERS"
  | 1 => "MOST_LETTERS"
  | 2 => "FIGURES"
  | 3 => "MOST_FIGURES"
  | 4 => "HOUSE_ROW"
  | 5 => "GUEST_ROW"
  | 6 => "WISHES"
  | _ => ""
def glT : Nat → Option D
  | 0 => some (.str [97, 98, 99, 100, 101, 102, 103, 104, 105, 106, 107, 108, 109, 110, 111, 112, 113, 114, 115, 116, 117, 118, 119, 120, 121, 122])
  | 1 => some (.int 8)
  | 2 => some (.str [48, 49, 50, 51, 52, 53, 54, 55, 56, 57])
  | 3 => some (.int 9)
  | 4 => some (.str [104, 111, 117, 115, 101])
  | 5 => some (.str [103, 117, 101, 115, 116])
  | 6 => some (.str [119, 105, 115, 104, 101, 115])
  | _ => none
def exN : Nat → Str
  | 0 => "ChairError"
  | 1 => "NoText"
  | _ => ""
def pg : Pg := ⟨glN, glT, fnN, fnT, exN, 2⟩
def fnI : Nat → Nat
  | 0 => 6
  | 1 => 7
  | 2 => 8
  | 3 => 9
  | 4 => 10
  | 5 => 11
  | 6 => 18
  | 7 => 19
  | 8 => 20
  | 9 => 21
  | 10 => 22
  | 11 => 23
  | 12 => 24
  | 13 => 25
  | 14 => 27
  | 15 => 28
  | 16 => 29
  | 17 => 30
  | 18 => 31
  | 19 => 32
  | 20 => 33
  | 21 => 34
  | _ => 0
def fnC : Nat := 22
end KX

set_option Elab.async false
set_option linter.all false
set_option maxRecDepth 100000
set_option maxHeartbeats 4000000
set_option exponentiation.threshold 100000
namespace KX
open PySem L2 DL
abbrev CL := wC pg.G pg.F
/-! # the pot -/
def potC (t : Int × Int × Int) : Cell := .lst [.int t.1, .int t.2.1, .int t.2.2]
structure PV (b : Nat) (t : Int × Int × Int) : Prop where
  f0 : 0 ≤ t.1
  b0 : 0 ≤ t.2.1
  b1 : t.2.1 < 2 ^ 130
  c0 : 0 ≤ t.2.2
  c1 : t.2.2 + b ≤ 2 ^ 60
theorem PV.mono {b b' : Nat} {t : Int × Int × Int} (h : PV b t) (l : b' ≤ b) : PV b' t := ⟨h.f0, h.b0, h.b1, h.c0, by have := h.c1; omega⟩
theorem lg {x : Int} {k : Nat} (h0 : 0 ≤ x) (h : x < 2 ^ k) (hk : 0 < k) : x.natAbs.log2 < k := by
  have e : (x.natAbs : Int) = x := Int.natAbs_of_nonneg h0
  have h2 : x.natAbs < 2 ^ k := by
    have : ((x.natAbs : Nat) : Int) < ((2 ^ k : Nat) : Int) := by rw [e]; simpa using h
    exact Int.ofNat_lt.mp this
  by_cases hz : x.natAbs = 0
  · rw [hz]; simpa using hk
  · exact (Nat.log2_lt hz).mpr h2
theorem scoop_spec {k : Nat} {E : En} {p : Addr} {t : Int × Int × Int} {n : Int} {b : Nat} {q : QE} {x : Nat → En → Prop} (hp : E p = some (potC t)) (hv : PV (b + 1) t) (hn : 0 < n) (hn2 : n < 2 ^ 60)
    (h : ∀ v t', 0 ≤ v → v < n → PV b t' → q (.int v) (E.set p (potC t'))) : CL (k + 1) i__law_scoop [.ref p, .int n] E q x := by
  refine wC_go (fn := ⟨2, 4, b15⟩) rfl rfl ?_
  obtain ⟨f, bl, c⟩ := t
  obtain ⟨f0, b0, b1, c0, c1⟩ := hv
  simp only at f0 b0 b1 c0 c1
  simp only [b15]
  unfold potC at hp
  simp only [wSs, wS, wE, wA, wT, wB, wI, wG, wGs, tgsL, wipeD, startD, List.map_cons, List.map_nil, List.length_cons, List.length_nil, List.replicate, List.cons_append, List.nil_append, List.append_nil, List.set_cons_zero, List.set_cons_succ, List.set_nil, getv0, getvS, truR_bl, asI_i, asB_b, asS_s, asT_t, optI_0, optI_1, opt_some, ixR_tup, ixR_lst, ixR_set, ixR_str, asQ_tup, asQ_lst, asQ_set, asL_lst, asL_set, asC_set, lenR_tup, lenR_lst, lenR_str, lenR_set, atI0, atI1, atI2, ixN0, ixN2, lv_lst, lv_set, seq_lst, seq_tup, seq_str, bop_ai, bop_as, bop_al, bop_si, bop_mi, bop_ms, bop_mb, bop_mo, bop_fd, bop_pw, cmp_lti, cmp_lei, cmp_gti, cmp_gei, cmp_eqi, cmp_nei, cmp_eqs, cmp_nes, cmp_isin, cmp_nin, in_sign, in_tup, bm_app, bm_pop, bm_clear, bm_join, bm_split, bm_ends, bmT_app, bmT_pop, bmT_clear, bmT_join, bmT_split, bmT_ends, newL_f, newL_t, DL.bi_len, DL.bi_all, DL.bi_any, DL.bi_abs, DL.bi_max, DL.bi_min, DL.bi_inti, DL.bi_intb, DL.bi_str, DL.bi_repr, DL.bi_sorted, DL.bi_list, tr_non, tr_bl, tr_int, tr_str, tr_tup, tr_lst, DL.sl_str, DL.sl_lst, En.set_set, if_true, if_false, ite_true, ite_false, Bool.false_eq_true, Nat.zero_lt_succ, true_and, decide_true, decide_false, Bool.not_true, Bool.not_false, List.length_map, asBls_one, all_one, ixR_ref hp, asC_ref hp]
  have hnl := lg (k := 60) (by omega) hn2 (by decide)
  by_cases hf : 0 < f
  · rw [if_pos (decide_eq_true hf)]
    refine ⟨hn, by omega, ⟨hn, by omega⟩, ex_le ?_⟩
    refine h (f % n) (f / n, bl, c) (Int.emod_nonneg _ (by omega)) (Int.emod_lt_of_pos _ hn) ⟨Int.ediv_nonneg f0 (by omega), b0, b1, c0, ?_⟩
    show c + _ ≤ _
    omega
  · rw [if_neg (by simpa using hf)]
    have l1 : (c + 1).natAbs.log2 < 61 := lg (k := 61) (by omega) (by omega) (by decide)
    have e2 : Int.toNat 2 = 2 := rfl
    have sq : (c + 1) ^ 2 ≤ (2 ^ 61) ^ 2 := by
      rw [Int.pow_succ, Int.pow_succ, Int.pow_zero, Int.one_mul]
      have h1 : c + 1 ≤ 2 ^ 61 := by omega
      exact Int.le_trans (Int.mul_le_mul h1 h1 (by omega) (by decide)) (by decide)
    have sq0 : 0 ≤ (c + 1) ^ 2 := by
      rw [Int.pow_succ, Int.pow_succ, Int.pow_zero, Int.one_mul]
      exact Int.mul_nonneg (by omega) (by omega)
    have m1 : ∀ z : Int, 0 ≤ z % 618970019642690137449562111 ∧ z % 618970019642690137449562111 < 618970019642690137449562111 := fun z => ⟨Int.emod_nonneg _ (by decide), Int.emod_lt_of_pos _ (by decide)⟩
    have l2 : ((c + 1) ^ 2).natAbs.log2 < 123 := lg (k := 123) sq0 (Int.lt_of_le_of_lt sq (by decide)) (by decide)
    have l3 : (bl + 15485863 * (c + 1)).natAbs.log2 < 200 := lg (k := 200) (by omega) (by omega) (by decide)
    rw [e2]
    have l4 : ∀ z : Int, (z % 618970019642690137449562111 + 257 * (c + 1) ^ 2).natAbs.log2 < 200 := fun z => by
      obtain ⟨a1, a2⟩ := m1 z
      generalize z % 618970019642690137449562111 = y at a1 a2 ⊢
      generalize (c + 1) ^ 2 = w at sq sq0 ⊢
      have : w ≤ 2 ^ 122 := Int.le_trans sq (by decide)
      exact lg (k := 200) (by omega) (by omega) (by decide)
    have w1 : (15485863 : Int).natAbs.log2 = 23 := by decide
    have w2 : (257 : Int).natAbs.log2 = 8 := by decide
    refine ⟨by unfold CMulW; omega, by decide, by omega, by decide, by omega, by decide, by omega, by unfold CMulW; omega, by decide, ?_, by decide, by omega, ⟨by decide, by decide⟩, hn, ex_le ?_⟩
    · have := l4 ((bl + 15485863 * (c + 1)) ^ Int.toNat 3)
      omega
    · refine h _ (f, bl, c + 1) (Int.emod_nonneg _ (by omega)) (Int.emod_lt_of_pos _ hn) ⟨f0, b0, b1, by show 0 ≤ c + 1; omega, by show c + 1 + _ ≤ _; omega⟩
def BB : Int := 10 ^ 400
theorem BBe : ((10 : Int) ^ Int.toNat 40) ^ Int.toNat 10 = BB := by decide +kernel
theorem BBp : 0 < BB := by decide +kernel
theorem BBl : BB.natAbs.log2 < 1330 := by decide +kernel
theorem BBm : BB ^ 50 < 2 ^ 66440 := by decide +kernel
theorem pot_spec {k : Nat} {E : En} {ns : List Int} {q : QE} {x : Nat → En → Prop} (hl : ns.length ≤ 63)
    (h : ∀ p t, E p = none → PV (2 ^ 50) t → q (.ref p) (E.set p (potC t))) : CL (k + 1) i__law_pot [.lst (ns.map .int)] E q x := by
  refine wC_go (fn := ⟨1, 4, b14⟩) rfl rfl ?_
  simp only [b14]
  simp only [wSs, wS, wE, wA, wT, wB, wI, wG, wGs, tgsL, wipeD, startD, List.map_cons, List.map_nil, List.length_cons, List.length_nil, List.replicate, List.cons_append, List.nil_append, List.append_nil, List.set_cons_zero, List.set_cons_succ, List.set_nil, getv0, getvS, truR_bl, asI_i, asB_b, asS_s, asT_t, optI_0, optI_1, opt_some, ixR_tup, ixR_lst, ixR_set, ixR_str, asQ_tup, asQ_lst, asQ_set, asL_lst, asL_set, asC_set, lenR_tup, lenR_lst, lenR_str, lenR_set, atI0, atI1, atI2, ixN0, ixN2, lv_lst, lv_set, seq_lst, seq_tup, seq_str, bop_ai, bop_as, bop_al, bop_si, bop_mi, bop_ms, bop_mb, bop_mo, bop_fd, bop_pw, cmp_lti, cmp_lei, cmp_gti, cmp_gei, cmp_eqi, cmp_nei, cmp_eqs, cmp_nes, cmp_isin, cmp_nin, in_sign, in_tup, bm_app, bm_pop, bm_clear, bm_join, bm_split, bm_ends, bmT_app, bmT_pop, bmT_clear, bmT_join, bmT_split, bmT_ends, newL_f, newL_t, DL.bi_len, DL.bi_all, DL.bi_any, DL.bi_abs, DL.bi_max, DL.bi_min, DL.bi_inti, DL.bi_intb, DL.bi_str, DL.bi_repr, DL.bi_sorted, DL.bi_list, tr_non, tr_bl, tr_int, tr_str, tr_tup, tr_lst, DL.sl_str, DL.sl_lst, En.set_set, if_true, if_false, ite_true, ite_false, Bool.false_eq_true, Nat.zero_lt_succ, true_and, decide_true, decide_false, Bool.not_true, Bool.not_false, List.length_map, asBls_one, all_one]
  have hc : cut (ns.map D.int) none (some 50) = (ns.take 50).map D.int := by
    rw [show (some (50 : Int)) = some ((50 : Nat) : Int) from rfl, cut_to, List.map_take]
  rw [hc]
  refine ⟨by omega, by omega, by (try simp only [List.length_map, List.length_take]); omega, ?_⟩
  have loop : ∀ (l : List Int) (i : Nat) (f bl : Int) (o : Option D), i + l.length ≤ 50 → 0 ≤ f → f < BB ^ i → 0 ≤ bl → bl < 2 ^ 128 →
      wFor (fun d s' E' k => 3 < List.length s' ∧ k (List.set s' 3 (some d)) E') (wSs pg.G (wC pg.G pg.F k) f14_0) (fun x => True)
        { nx := fun s1 E1 => getv s1 1 fun d => getv s1 2 fun d_1 => 0 + 1 + 1 + 1 ≤ 16777216 ∧ ∀ (p : Addr), E1 p = none → ∃ E2, E2.le (E1.set p (Cell.lst [d, d_1, D.int 0])) ∧ q (D.ref p) E2,
          rt := fun d E1 => ∃ E2, E2.le E1 ∧ q d E2, x := fun c x_1 E1 => ∃ E2, E2.le E1 ∧ x c E2 }
        (l.map D.int) [some (D.lst (List.map D.int ns)), some (D.int f), some (D.int bl), o] E := by
    intro l
    induction l with
    | nil =>
      intro i f bl o hi f0 f1 b0 b1
      refine ⟨trivial, ?_⟩
      simp only [wSs, wS, wE, wA, wT, wB, wI, wG, wGs, tgsL, wipeD, startD, List.map_cons, List.map_nil, List.length_cons, List.length_nil, List.replicate, List.cons_append, List.nil_append, List.append_nil, List.set_cons_zero, List.set_cons_succ, List.set_nil, getv0, getvS, truR_bl, asI_i, asB_b, asS_s, asT_t, optI_0, optI_1, opt_some, ixR_tup, ixR_lst, ixR_set, ixR_str, asQ_tup, asQ_lst, asQ_set, asL_lst, asL_set, asC_set, lenR_tup, lenR_lst, lenR_str, lenR_set, atI0, atI1, atI2, ixN0, ixN2, lv_lst, lv_set, seq_lst, seq_tup, seq_str, bop_ai, bop_as, bop_al, bop_si, bop_mi, bop_ms, bop_mb, bop_mo, bop_fd, bop_pw, cmp_lti, cmp_lei, cmp_gti, cmp_gei, cmp_eqi, cmp_nei, cmp_eqs, cmp_nes, cmp_isin, cmp_nin, in_sign, in_tup, bm_app, bm_pop, bm_clear, bm_join, bm_split, bm_ends, bmT_app, bmT_pop, bmT_clear, bmT_join, bmT_split, bmT_ends, newL_f, newL_t, DL.bi_len, DL.bi_all, DL.bi_any, DL.bi_abs, DL.bi_max, DL.bi_min, DL.bi_inti, DL.bi_intb, DL.bi_str, DL.bi_repr, DL.bi_sorted, DL.bi_list, tr_non, tr_bl, tr_int, tr_str, tr_tup, tr_lst, DL.sl_str, DL.sl_lst, En.set_set, if_true, if_false, ite_true, ite_false, Bool.false_eq_true, Nat.zero_lt_succ, true_and, decide_true, decide_false, Bool.not_true, Bool.not_false, List.length_map, asBls_one, all_one]
      refine ⟨by omega, fun p hp => ex_le ?_⟩
      exact h p (f, bl, 0) hp ⟨f0, b0, by show bl < _; omega, by show (0 : Int) ≤ 0; omega, by show (0 : Int) + _ ≤ _; omega⟩
    | cons n l ih =>
      intro i f bl o hi f0 f1 b0 b1
      rw [List.length_cons] at hi
      rw [List.map_cons]
      refine ⟨trivial, ?_⟩
      simp only [f14_0]
      simp only [wSs, wS, wE, wA, wT, wB, wI, wG, wGs, tgsL, wipeD, startD, List.map_cons, List.map_nil, List.length_cons, List.length_nil, List.replicate, List.cons_append, List.nil_append, List.append_nil, List.set_cons_zero, List.set_cons_succ, List.set_nil, getv0, getvS, truR_bl, asI_i, asB_b, asS_s, asT_t, optI_0, optI_1, opt_some, ixR_tup, ixR_lst, ixR_set, ixR_str, asQ_tup, asQ_lst, asQ_set, asL_lst, asL_set, asC_set, lenR_tup, lenR_lst, lenR_str, lenR_set, atI0, atI1, atI2, ixN0, ixN2, lv_lst, lv_set, seq_lst, seq_tup, seq_str, bop_ai, bop_as, bop_al, bop_si, bop_mi, bop_ms, bop_mb, bop_mo, bop_fd, bop_pw, cmp_lti, cmp_lei, cmp_gti, cmp_gei, cmp_eqi, cmp_nei, cmp_eqs, cmp_nes, cmp_isin, cmp_nin, in_sign, in_tup, bm_app, bm_pop, bm_clear, bm_join, bm_split, bm_ends, bmT_app, bmT_pop, bmT_clear, bmT_join, bmT_split, bmT_ends, newL_f, newL_t, DL.bi_len, DL.bi_all, DL.bi_any, DL.bi_abs, DL.bi_max, DL.bi_min, DL.bi_inti, DL.bi_intb, DL.bi_str, DL.bi_repr, DL.bi_sorted, DL.bi_list, tr_non, tr_bl, tr_int, tr_str, tr_tup, tr_lst, DL.sl_str, DL.sl_lst, En.set_set, if_true, if_false, ite_true, ite_false, Bool.false_eq_true, Nat.zero_lt_succ, true_and, decide_true, decide_false, Bool.not_true, Bool.not_false, List.length_map, asBls_one, all_one]
      rw [BBe]
      have fl : f.natAbs.log2 < 66440 := by
        refine lg f0 (Int.lt_of_lt_of_le f1 ?_) (by decide)
        refine Int.le_trans ?_ (Int.le_of_lt BBm)
        have : ∀ j : Nat, BB ^ i ≤ BB ^ (i + j) := by
          intro j
          induction j with
          | zero => exact Int.le_refl _
          | succ j ih =>
            refine Int.le_trans ih ?_
            rw [← Nat.add_assoc, Int.pow_succ]
            have h1 : 0 ≤ BB ^ (i + j) := Int.pow_nonneg (Int.le_of_lt BBp)
            have h2 : 1 ≤ BB := BBp
            have := Int.mul_le_mul_of_nonneg_left h2 h1
            rwa [Int.mul_one] at this
        have e := this (50 - i)
        rwa [show i + (50 - i) = 50 by omega] at e
      have w3 : (48271 : Int).natAbs.log2 = 15 := by decide
      have w4 : bl.natAbs.log2 < 128 := lg b0 b1 (by decide)
      have bbl := BBl
      refine ⟨by omega, by decide, by decide +kernel, by decide, by decide +kernel, ⟨by unfold CMulW; omega, by decide, by decide +kernel, by decide, by decide +kernel, by decide, by decide +kernel, BBp, by omega, ⟨by unfold CMulW; omega, by decide, by omega, _, En.le_refl _, ?_⟩⟩⟩
      have hr0 := fun z : Int => Int.emod_nonneg z (Int.ne_of_gt BBp)
      have hr1 := fun z : Int => Int.emod_lt_of_pos z BBp
      refine ih (i + 1) _ _ _ (by omega) ?_ ?_ (Int.emod_nonneg _ (by decide)) (Int.lt_trans (Int.emod_lt_of_pos _ (by decide)) (by decide))
      · exact Int.add_nonneg (Int.mul_nonneg f0 (Int.le_of_lt BBp)) (hr0 _)
      · rw [Int.pow_succ]
        have h1 : f + 1 ≤ BB ^ i := f1
        have h2 := Int.mul_le_mul_of_nonneg_right h1 (Int.le_of_lt BBp)
        rw [Int.add_mul, Int.one_mul] at h2
        refine Int.lt_of_lt_of_le ?_ h2
        exact Int.add_lt_add_left (hr1 _) _
  exact loop (ns.take 50) 0 0 161803 _ (by rw [List.length_take]; omega) (by decide) (by decide) (by decide) (by decide)
/-! # taking out of a list -/
/-- one is taken out, some place -/
def Takes1 (p l : Addr) (i : Nat) (s : SD) (elt : SD → En → QE → Prop) : Prop := ∀ (E : En) (t : Int × Int × Int) (xs : List D) (b : Nat) (q : QE) (d : D), E p = some (potC t) → E l = some (.lst xs) → xs ≠ [] → xs.length < 16777216 → PV (b + 1) t →
  (∀ j y t', xs[j]? = some y → PV b t' → q y ((E.set p (potC t')).set l (.lst (xs.eraseIdx j)))) → elt (s.set i (some d)) E q
theorem erase_perm {α : Type} : ∀ {xs : List α} {j : Nat} {y : α}, xs[j]? = some y → (y :: xs.eraseIdx j).Perm xs
  | x :: xs, 0, y, h => by cases h; exact .refl _
  | x :: xs, j + 1, y, h => (List.Perm.swap _ _ _).trans ((erase_perm (xs := xs) (j := j) h).cons _)
theorem wLc_take {p l : Addr} {i : Nat} {s : SD} {elt : SD → En → QE → Prop} (hpl : p ≠ l) (hi : i < s.length) (he : Takes1 p l i s elt) :
    ∀ (ds : List D) (E : En) (t : Int × Int × Int) (xs : List D) (b : Nat) (q : List D → En → Prop), E p = some (potC t) → E l = some (.lst xs) → xs.length < 16777216 → ds.length ≤ xs.length → PV (b + ds.length) t →
      (∀ ys zs t', (ys ++ zs).Perm xs → ys.length = ds.length → PV b t' → q ys ((E.set p (potC t')).set l (.lst zs))) →
      wLc (fun d s' E' k => i < List.length s' ∧ k (List.set s' i (some d)) E') (fun s' E' k => k true E') elt (fun _ => True) s ds E q
  | [], E, t, xs, b, q, hp, hl, hz, hn, hv, h => by
    refine ⟨trivial, ?_⟩
    have := h [] xs t (.refl _) rfl hv
    rw [En.set_id hp, En.set_id hl] at this
    exact this
  | d :: ds, E, t, xs, b, q, hp, hl, hz, hn, hv, h => by
    rw [List.length_cons] at hn hv
    refine ⟨trivial, hi, ?_⟩
    dsimp only
    rw [if_pos rfl]
    refine he E t xs (b + ds.length) _ d hp hl (fun z => by rw [z] at hn; simp at hn) hz hv fun j y t' hy hv' => ?_
    have hj : j < xs.length := (List.getElem?_eq_some_iff.mp hy).1
    have hlen : (xs.eraseIdx j).length = xs.length - 1 := List.length_eraseIdx_of_lt hj
    refine wLc_take hpl hi he ds _ t' (xs.eraseIdx j) b _ ?_ (En.set_same _ _ _) (by omega) (by omega) hv' fun ys zs t2 hpm hyl hv2 => ?_
    · rw [En.set_ne _ _ hpl, En.set_same]
    · rw [En.set_comm _ (Ne.symm hpl), En.set_set, En.set_set]
      refine h (y :: ys) zs t2 ?_ (by simp [hyl]) hv2
      have e1 : (y :: xs.eraseIdx j).Perm xs := by
        exact erase_perm hy
      exact (List.Perm.cons y hpm).trans e1
/-! # names -/
def abc : List Nat := [97, 98, 99, 100, 101, 102, 103, 104, 105, 106, 107, 108, 109, 110, 111, 112, 113, 114, 115, 116, 117, 118, 119, 120, 121, 122]
def fixed : List (List Nat) := [[105, 110], [111, 117, 116], [99, 108, 101, 97, 114], [98, 97, 114, 114, 101, 100], [111, 112, 101, 110], [104, 101, 97, 114, 100], [99, 104, 97, 105, 114], [98, 97, 99, 107], [119, 105, 115, 104, 101, 115], [104, 111, 117, 115, 101], [103, 117, 101, 115, 116], [119, 105, 115, 104], [97], [97, 110], [97, 110, 110], [97, 110, 110, 97], [98, 111], [122, 122, 122, 122, 122, 122, 122, 122], [122], [101, 105, 103, 104, 116, 108, 101, 116]]
def genN (k : Nat) : List Nat := [97, 113, 97 + k]
def pool (m : Nat) : List (List Nat) := fixed ++ (List.range (m - 20)).map genN
def goodB (x : List Nat) : Bool := decide (1 ≤ x.length) && decide (x.length ≤ 8) && x.all fun c => decide (c ∈ abc)
theorem pool_len (m : Nat) : (pool m).length = 20 + (m - 20) := by unfold pool; rw [List.length_append, List.length_map, List.length_range]; rfl
theorem pool_ok : ∀ m : Fin 47, (pool m).Nodup ∧ ∀ x ∈ pool m, goodB x = true := by decide +kernel
theorem take_go {k : Nat} {p l : Addr} (hpl : p ≠ l) {E : En} {t : Int × Int × Int} {xs : List D} {b' : Nat} {q : QE} {x : Nat → En → Prop} (hp : E p = some (potC t)) (hl : E l = some (.lst xs)) (hne : xs ≠ []) (hz : xs.length < 16777216) (hv : PV (b' + 1) t)
    (h : ∀ j y t', xs[j]? = some y → PV b' t' → q y ((E.set p (potC t')).set l (.lst (xs.eraseIdx j)))) :
    CL (k + 1) i__law_scoop [.ref p, .int xs.length] E (fun d E1 => bmR .pop1 false E1 (.ref l) [d] q) x := by
  have h0 : 0 < xs.length := List.length_pos_iff.mpr hne
  refine scoop_spec (t := t) (b := b') hp hv (by omega) (by omega) fun v t' v0 v1 hv' => ?_
  obtain ⟨j, rfl⟩ : ∃ j : Nat, v = (j : Int) := ⟨v.toNat, (Int.toNat_of_nonneg v0).symm⟩
  have hj : j < xs.length := by omega
  rw [bm_pop, asC_ref (xs := xs) (by rw [En.set_ne _ _ hpl.symm]; exact hl), ixNn hj, opt_some, List.getElem?_eq_getElem hj, opt_some]
  exact ⟨by omega, by omega, h j _ t' (List.getElem?_eq_getElem hj) hv'⟩
theorem take_names {k : Nat} {p l : Addr} (hpl : p ≠ l) {a b : D} : Takes1 p l 4 [some (.ref p), some a, some (.ref l), some b, none] (fun s' E' q' => wE pg.G (wC pg.G pg.F (k + 1)) c16_1 s' E' q' noX) := by
  intro E t xs b' q d hp hl hne hz hv h
  simp only [c16_1]
  simp only [wSs, wS, wE, wA, wT, wB, wI, wG, wGs, tgsL, wipeD, startD, List.map_cons, List.map_nil, List.length_cons, List.length_nil, List.replicate, List.cons_append, List.nil_append, List.append_nil, List.set_cons_zero, List.set_cons_succ, List.set_nil, getv0, getvS, truR_bl, asI_i, asB_b, asS_s, asT_t, optI_0, optI_1, opt_some, ixR_tup, ixR_lst, ixR_set, ixR_str, asQ_tup, asQ_lst, asQ_set, asL_lst, asL_set, asC_set, lenR_tup, lenR_lst, lenR_str, lenR_set, atI0, atI1, atI2, ixN0, ixN2, lv_lst, lv_set, seq_lst, seq_tup, seq_str, bop_ai, bop_as, bop_al, bop_si, bop_mi, bop_ms, bop_mb, bop_mo, bop_fd, bop_pw, cmp_lti, cmp_lei, cmp_gti, cmp_gei, cmp_eqi, cmp_nei, cmp_eqs, cmp_nes, cmp_isin, cmp_nin, in_sign, in_tup, bm_app, bm_pop, bm_clear, bm_join, bm_split, bm_ends, bmT_app, bmT_pop, bmT_clear, bmT_join, bmT_split, bmT_ends, newL_f, newL_t, DL.bi_len, DL.bi_all, DL.bi_any, DL.bi_abs, DL.bi_max, DL.bi_min, DL.bi_inti, DL.bi_intb, DL.bi_str, DL.bi_repr, DL.bi_sorted, DL.bi_list, tr_non, tr_bl, tr_int, tr_str, tr_tup, tr_lst, DL.sl_str, DL.sl_lst, En.set_set, if_true, if_false, ite_true, ite_false, Bool.false_eq_true, Nat.zero_lt_succ, true_and, decide_true, decide_false, Bool.not_true, Bool.not_false, List.length_map, asBls_one, all_one]
  rw [asL_ref hl, lenR_ref hl]
  exact take_go hpl hp hl hne hz hv h
theorem names_spec {k : Nat} {E : En} {p : Addr} {t : Int × Int × Int} {m : Nat} {b : Nat} {q : QE} {x : Nat → En → Prop} (hp : E p = some (potC t)) (hv : PV (b + m) t) (hm : m ≤ 46)
    (h : ∀ (ys : List (List Nat)) t', ys.length = m → ys.Nodup → (∀ y ∈ ys, goodB y = true) → PV b t' → q (.lst (ys.map .str)) (E.set p (potC t'))) : CL (k + 2) i__law_names [.ref p, .int m] E q x := by
  refine wC_go (fn := ⟨2, 5, b16⟩) rfl rfl ?_
  simp only [b16]
  simp only [wSs, wS, wE, wA, wT, wB, wI, wG, wGs, tgsL, wipeD, startD, List.map_cons, List.map_nil, List.length_cons, List.length_nil, List.replicate, List.cons_append, List.nil_append, List.append_nil, List.set_cons_zero, List.set_cons_succ, List.set_nil, getv0, getvS, truR_bl, asI_i, asB_b, asS_s, asT_t, optI_0, optI_1, opt_some, ixR_tup, ixR_lst, ixR_set, ixR_str, asQ_tup, asQ_lst, asQ_set, asL_lst, asL_set, asC_set, lenR_tup, lenR_lst, lenR_str, lenR_set, atI0, atI1, atI2, ixN0, ixN2, lv_lst, lv_set, seq_lst, seq_tup, seq_str, bop_ai, bop_as, bop_al, bop_si, bop_mi, bop_ms, bop_mb, bop_mo, bop_fd, bop_pw, cmp_lti, cmp_lei, cmp_gti, cmp_gei, cmp_eqi, cmp_nei, cmp_eqs, cmp_nes, cmp_isin, cmp_nin, in_sign, in_tup, bm_app, bm_pop, bm_clear, bm_join, bm_split, bm_ends, bmT_app, bmT_pop, bmT_clear, bmT_join, bmT_split, bmT_ends, newL_f, newL_t, DL.bi_len, DL.bi_all, DL.bi_any, DL.bi_abs, DL.bi_max, DL.bi_min, DL.bi_inti, DL.bi_intb, DL.bi_str, DL.bi_repr, DL.bi_sorted, DL.bi_list, tr_non, tr_bl, tr_int, tr_str, tr_tup, tr_lst, DL.sl_str, DL.sl_lst, En.set_set, if_true, if_false, ite_true, ite_false, Bool.false_eq_true, Nat.zero_lt_succ, true_and, decide_true, decide_false, Bool.not_true, Bool.not_false, List.length_map, asBls_one, all_one]
  have e20 : (if (m : Int) - 20 > 0 then (m : Int) - 20 else 0).toNat = m - 20 := by split <;> omega
  have em : ((m : Int)).toNat = m := Int.toNat_natCast m
  rw [e20, em]
  refine ⟨by omega, by omega, by omega, by omega, by omega, by omega, by split <;> omega, by split <;> omega, by rw [rngD_len]; omega, ?_⟩
  refine wLc_map (fun d => match d with | .int i => .str (genN i.toNat) | _ => .non) trivial _ _ (fun d hd q1 q2 h1 => ?_) ?_
  · obtain ⟨j, hj, rfl⟩ := rngD_mem hd
    refine ⟨(by (try simp only [List.length_cons, List.length_nil]); omega), ?_⟩
    dsimp only
    rw [if_pos rfl]
    simp only [c16_0]
    simp only [wSs, wS, wE, wA, wT, wB, wI, wG, wGs, tgsL, wipeD, startD, List.map_cons, List.map_nil, List.length_cons, List.length_nil, List.replicate, List.cons_append, List.nil_append, List.append_nil, List.set_cons_zero, List.set_cons_succ, List.set_nil, getv0, getvS, truR_bl, asI_i, asB_b, asS_s, asT_t, optI_0, optI_1, opt_some, ixR_tup, ixR_lst, ixR_set, ixR_str, asQ_tup, asQ_lst, asQ_set, asL_lst, asL_set, asC_set, lenR_tup, lenR_lst, lenR_str, lenR_set, atI0, atI1, atI2, ixN0, ixN2, lv_lst, lv_set, seq_lst, seq_tup, seq_str, bop_ai, bop_as, bop_al, bop_si, bop_mi, bop_ms, bop_mb, bop_mo, bop_fd, bop_pw, cmp_lti, cmp_lei, cmp_gti, cmp_gei, cmp_eqi, cmp_nei, cmp_eqs, cmp_nes, cmp_isin, cmp_nin, in_sign, in_tup, bm_app, bm_pop, bm_clear, bm_join, bm_split, bm_ends, bmT_app, bmT_pop, bmT_clear, bmT_join, bmT_split, bmT_ends, newL_f, newL_t, DL.bi_len, DL.bi_all, DL.bi_any, DL.bi_abs, DL.bi_max, DL.bi_min, DL.bi_inti, DL.bi_intb, DL.bi_str, DL.bi_repr, DL.bi_sorted, DL.bi_list, tr_non, tr_bl, tr_int, tr_str, tr_tup, tr_lst, DL.sl_str, DL.sl_lst, En.set_set, if_true, if_false, ite_true, ite_false, Bool.false_eq_true, Nat.zero_lt_succ, true_and, decide_true, decide_false, Bool.not_true, Bool.not_false, List.length_map, asBls_one, all_one]
    have hj26 : j < 26 := by omega
    have d1 : (0 + (j : Int)) / 26 = 0 := by omega
    have d2 : (0 + (j : Int)) % 26 = (j : Int) := by omega
    have hg : abc[j]? = some (97 + j) := by
      have : ∀ i : Fin 26, abc[i.val]? = some (97 + i.val) := by decide
      exact this ⟨j, hj26⟩
    rw [d1, d2, atI0, opt_some, atI_nat (xs := [97, 98, 99, 100, 101, 102, 103, 104, 105, 106, 107, 108, 109, 110, 111, 112, 113, 114, 115, 116, 117, 118, 119, 120, 121, 122]) hg, opt_some]
    refine ⟨⟨by decide, by decide⟩, by decide, by decide, by decide, by decide, by decide, ?_⟩
    have : (0 + (j : Int)).toNat = j := by omega
    dsimp only at h1
    rw [this] at h1
    exact h1
  · rw [rngD_map]
    have eg : ((List.range (m - 20)).map fun (k : Nat) => (match D.int (k : Int) with | .int i => D.str (genN i.toNat) | _ => D.non)) = ((List.range (m - 20)).map genN).map D.str := by
      rw [List.map_map]
      exact List.map_congr_left fun k _ => by show D.str (genN ((k : Int)).toNat) = D.str (genN k); rw [Int.toNat_natCast]
    rw [eg]
    have hlen : (((List.range (m - 20)).map genN).map D.str).length = m - 20 := by simp
    rw [hlen]
    refine ⟨by omega, by omega, fun l hl => ⟨by omega, by omega, by omega, by rw [rngD_len]; omega, ?_⟩⟩
    have hpl : p ≠ l := fun z => by subst z; rw [hl] at hp; cases hp
    obtain ⟨pn, pg'⟩ := pool_ok ⟨m, by omega⟩
    show wLc _ _ _ _ _ _ (E.set l (.lst ((pool m).map D.str))) _
    refine wLc_take hpl (by (try simp only [List.length_cons, List.length_nil]); omega) (take_names hpl) _ _ t ((pool m).map .str) b _ (by rw [En.set_ne _ _ hpl]; exact hp) (En.set_same _ _ _) (by rw [List.length_map, pool_len]; omega) (by rw [rngD_len, List.length_map, pool_len]; omega) (by rw [rngD_len]; exact hv) fun ys zs t' hpm hyl hv' => ?_
    rw [rngD_len] at hyl
    have hex : ∃ ws : List (List Nat), ys ++ zs = ws.map D.str ∧ ws.Perm (pool m) := by
      obtain ⟨ws, h1, h2⟩ := perm_map hpm
      exact ⟨ws, h1, h2⟩
    obtain ⟨ws, hw, hwp⟩ := hex
    have hy : ys = (ws.take m).map D.str := by
      have := congrArg (List.take m) hw
      rw [List.take_append_of_le_length (by omega), List.take_of_length_le (by omega), ← List.map_take] at this
      exact this
    refine ⟨by omega, E.set p (potC t'), ?_, ?_⟩
    · intro a c hc
      by_cases ha : a = p
      · subst ha
        rw [En.set_ne _ _ hpl, En.set_same] <;> rw [En.set_same] at hc <;> exact hc
      · rw [En.set_ne _ _ ha] at hc
        rw [En.set_ne _ _ (fun z => by subst z; rw [hl] at hc; cases hc), En.set_ne _ _ ha, En.set_ne _ _ (fun z => by subst z; rw [hl] at hc; cases hc)]
        exact hc
    · rw [hy]
      have hsub : (ws.take m).Sublist ws := List.take_sublist _ _
      refine h (ws.take m) t' ?_ (hwp.nodup_iff.mpr pn |>.sublist hsub) (fun y hy => pg' y (hwp.mem_iff.mp (hsub.subset hy))) hv'
      have := congrArg List.length hy
      rw [List.length_map] at this
      omega
/-! # an order, a town -/
theorem take_order {k : Nat} {p l : Addr} (hpl : p ≠ l) {a b : D} : Takes1 p l 4 [some (.ref p), some a, some b, some (.ref l), none] (fun s' E' q' => wE pg.G (wC pg.G pg.F (k + 1)) c17_0 s' E' q' noX) := by
  intro E t xs b' q d hp hl hne hz hv h
  simp only [c17_0]
  simp only [wSs, wS, wE, wA, wT, wB, wI, wG, wGs, tgsL, wipeD, startD, List.map_cons, List.map_nil, List.length_cons, List.length_nil, List.replicate, List.cons_append, List.nil_append, List.append_nil, List.set_cons_zero, List.set_cons_succ, List.set_nil, getv0, getvS, truR_bl, asI_i, asB_b, asS_s, asT_t, optI_0, optI_1, opt_some, ixR_tup, ixR_lst, ixR_set, ixR_str, asQ_tup, asQ_lst, asQ_set, asL_lst, asL_set, asC_set, lenR_tup, lenR_lst, lenR_str, lenR_set, atI0, atI1, atI2, ixN0, ixN2, lv_lst, lv_set, seq_lst, seq_tup, seq_str, bop_ai, bop_as, bop_al, bop_si, bop_mi, bop_ms, bop_mb, bop_mo, bop_fd, bop_pw, cmp_lti, cmp_lei, cmp_gti, cmp_gei, cmp_eqi, cmp_nei, cmp_eqs, cmp_nes, cmp_isin, cmp_nin, in_sign, in_tup, bm_app, bm_pop, bm_clear, bm_join, bm_split, bm_ends, bmT_app, bmT_pop, bmT_clear, bmT_join, bmT_split, bmT_ends, newL_f, newL_t, DL.bi_len, DL.bi_all, DL.bi_any, DL.bi_abs, DL.bi_max, DL.bi_min, DL.bi_inti, DL.bi_intb, DL.bi_str, DL.bi_repr, DL.bi_sorted, DL.bi_list, tr_non, tr_bl, tr_int, tr_str, tr_tup, tr_lst, DL.sl_str, DL.sl_lst, En.set_set, if_true, if_false, ite_true, ite_false, Bool.false_eq_true, Nat.zero_lt_succ, true_and, decide_true, decide_false, Bool.not_true, Bool.not_false, List.length_map, asBls_one, all_one]
  rw [asL_ref hl, lenR_ref hl]
  exact take_go hpl hp hl hne hz hv h
/-- what is left of the new cell's heap -/
theorem le_pot {E E' : En} {p l : Addr} {c : Cell} (hl : E l = none) (hpl : p ≠ l) (h1 : E' p = some c) (h2 : ∀ a, a ≠ p → a ≠ l → E' a = E a) : (E.set p c).le E' := by
  intro a c2 hc
  by_cases ha : a = p
  · subst ha
    rw [En.set_same] at hc
    rw [h1]; exact hc
  · rw [En.set_ne _ _ ha] at hc
    rw [h2 a ha (fun z => by subst z; rw [hl] at hc; cases hc)]
    exact hc
theorem order_spec {k : Nat} {E : En} {p : Addr} {t : Int × Int × Int} {gs : List (List Nat)} {m : Int} {b : Nat} {q : QE} {x : Nat → En → Prop} (hp : E p = some (potC t)) (hv : PV (b + gs.length + 1) t) (hg : gs.length ≤ 1000) (hm0 : 0 ≤ m) (hm : m < 2 ^ 50)
    (h : ∀ (ys zs : List (List Nat)) t', (ys ++ zs).Perm gs → PV b t' → q (.lst (ys.map .str)) (E.set p (potC t'))) : CL (k + 2) i__law_order [.ref p, .lst (gs.map .str), .int m] E q x := by
  refine wC_go (fn := ⟨3, 5, b17⟩) rfl rfl ?_
  simp only [b17]
  simp only [wSs, wS, wE, wA, wT, wB, wI, wG, wGs, tgsL, wipeD, startD, List.map_cons, List.map_nil, List.length_cons, List.length_nil, List.replicate, List.cons_append, List.nil_append, List.append_nil, List.set_cons_zero, List.set_cons_succ, List.set_nil, getv0, getvS, truR_bl, asI_i, asB_b, asS_s, asT_t, optI_0, optI_1, opt_some, ixR_tup, ixR_lst, ixR_set, ixR_str, asQ_tup, asQ_lst, asQ_set, asL_lst, asL_set, asC_set, lenR_tup, lenR_lst, lenR_str, lenR_set, atI0, atI1, atI2, ixN0, ixN2, lv_lst, lv_set, seq_lst, seq_tup, seq_str, bop_ai, bop_as, bop_al, bop_si, bop_mi, bop_ms, bop_mb, bop_mo, bop_fd, bop_pw, cmp_lti, cmp_lei, cmp_gti, cmp_gei, cmp_eqi, cmp_nei, cmp_eqs, cmp_nes, cmp_isin, cmp_nin, in_sign, in_tup, bm_app, bm_pop, bm_clear, bm_join, bm_split, bm_ends, bmT_app, bmT_pop, bmT_clear, bmT_join, bmT_split, bmT_ends, newL_f, newL_t, DL.bi_len, DL.bi_all, DL.bi_any, DL.bi_abs, DL.bi_max, DL.bi_min, DL.bi_inti, DL.bi_intb, DL.bi_str, DL.bi_repr, DL.bi_sorted, DL.bi_list, tr_non, tr_bl, tr_int, tr_str, tr_tup, tr_lst, DL.sl_str, DL.sl_lst, En.set_set, if_true, if_false, ite_true, ite_false, Bool.false_eq_true, Nat.zero_lt_succ, true_and, decide_true, decide_false, Bool.not_true, Bool.not_false, List.length_map, asBls_one, all_one]
  refine ⟨by (try simp only [List.length_map]); omega, fun l hl => ⟨by omega, ?_⟩⟩
  have hpl : p ≠ l := fun z => by subst z; rw [hl] at hp; cases hp
  refine scoop_spec (t := t) (b := b + gs.length) (by rw [En.set_ne _ _ hpl]; exact hp) hv (by omega) (by omega) fun v t' v0 v1 hv' => ?_
  simp only [wSs, wS, wE, wA, wT, wB, wI, wG, wGs, tgsL, wipeD, startD, List.map_cons, List.map_nil, List.length_cons, List.length_nil, List.replicate, List.cons_append, List.nil_append, List.append_nil, List.set_cons_zero, List.set_cons_succ, List.set_nil, getv0, getvS, truR_bl, asI_i, asB_b, asS_s, asT_t, optI_0, optI_1, opt_some, ixR_tup, ixR_lst, ixR_set, ixR_str, asQ_tup, asQ_lst, asQ_set, asL_lst, asL_set, asC_set, lenR_tup, lenR_lst, lenR_str, lenR_set, atI0, atI1, atI2, ixN0, ixN2, lv_lst, lv_set, seq_lst, seq_tup, seq_str, bop_ai, bop_as, bop_al, bop_si, bop_mi, bop_ms, bop_mb, bop_mo, bop_fd, bop_pw, cmp_lti, cmp_lei, cmp_gti, cmp_gei, cmp_eqi, cmp_nei, cmp_eqs, cmp_nes, cmp_isin, cmp_nin, in_sign, in_tup, bm_app, bm_pop, bm_clear, bm_join, bm_split, bm_ends, bmT_app, bmT_pop, bmT_clear, bmT_join, bmT_split, bmT_ends, newL_f, newL_t, DL.bi_len, DL.bi_all, DL.bi_any, DL.bi_abs, DL.bi_max, DL.bi_min, DL.bi_inti, DL.bi_intb, DL.bi_str, DL.bi_repr, DL.bi_sorted, DL.bi_list, tr_non, tr_bl, tr_int, tr_str, tr_tup, tr_lst, DL.sl_str, DL.sl_lst, En.set_set, if_true, if_false, ite_true, ite_false, Bool.false_eq_true, Nat.zero_lt_succ, true_and, decide_true, decide_false, Bool.not_true, Bool.not_false, List.length_map, asBls_one, all_one]

  obtain ⟨j, rfl⟩ : ∃ j : Nat, v = (j : Int) := ⟨v.toNat, (Int.toNat_of_nonneg v0).symm⟩
  have en : (if (j : Int) < (gs.length : Int) then (j : Int) else (gs.length : Int)).toNat = min gs.length j := by split <;> omega
  rw [en]
  refine ⟨by split <;> omega, by split <;> omega, by rw [rngD_len]; omega, ?_⟩
  refine wLc_take hpl (by (try simp only [List.length_cons, List.length_nil]); omega) (take_order hpl) _ _ t' (gs.map .str) b _ (by rw [En.set_same]) (by rw [En.set_ne _ _ hpl.symm, En.set_same]) (by (try simp only [List.length_map]); omega) (by rw [rngD_len]; (try simp only [List.length_map]); omega) (by rw [rngD_len]; exact hv'.mono (by omega)) fun ys zs t2 hpm hyl hv2 => ?_
  rw [rngD_len] at hyl
  obtain ⟨ws, hw, hwp⟩ := perm_map hpm
  have hy : ys = (ws.take ys.length).map D.str ∧ zs = (ws.drop ys.length).map D.str := by
    have e1 := congrArg (List.take ys.length) hw
    have e2 := congrArg (List.drop ys.length) hw
    rw [List.take_left', ← List.map_take] at e1
    rw [List.drop_left', ← List.map_drop] at e2
    exact ⟨e1, e2⟩
    all_goals rfl
  refine ⟨by omega, E.set p (potC t2), ?_, ?_⟩
  · refine le_pot hl hpl (by rw [En.set_ne _ _ hpl, En.set_same]) fun a h1 h2 => ?_
    repeat (first | rw [En.set_ne _ _ h2] | rw [En.set_ne _ _ h1])
  · rw [hy.1]
    exact h _ (ws.drop ys.length) t2 (by rw [List.take_append_drop]; exact hwp) hv2
end KX

set_option Elab.async false
set_option linter.all false
set_option maxRecDepth 100000
set_option maxHeartbeats 4000000
namespace KX
open PySem L2 DL
/-! # worlds -/
structure House where
  nm : List Nat
  rm : Nat
  od : List (List Nat)
structure Guest where
  nm : List Nat
  ws : Bool
def hD (h : House) : D := .tup [.str h.nm, .int h.rm, .lst (h.od.map .str)]
def gD (g : Guest) : D := .tup [.str g.nm, .bl g.ws]
structure WOk (hs : List House) (gs : List Guest) : Prop where
  nd : (gs.map Guest.nm ++ hs.map House.nm).Nodup
  gg : ∀ g ∈ gs, goodB g.nm = true
  gh : ∀ h ∈ hs, goodB h.nm = true
  rm : ∀ h ∈ hs, h.rm < 10 ^ 9
  od : ∀ h ∈ hs, h.od.Nodup ∧ ∀ y ∈ h.od, y ∈ gs.map Guest.nm
  hn : hs.length ≤ 50
  gn : gs.length ≤ 50
theorem guestsL {k : Nat} {p : Addr} {a b c : D} {o1 o2 o3 o4 o5 : Option D} : ∀ (l : List (List Nat)) (E : En) (t : Int × Int × Int) (n : Nat) (q : List D → En → Prop), E p = some (potC t) → PV (n + l.length) t →
    (∀ (gs : List Guest) t', gs.map Guest.nm = l → PV n t' → q (gs.map gD) (E.set p (potC t'))) →
    wLc (fun d s' E' k => 6 < List.length s' ∧ k (List.set s' 6 (some d)) E') (fun s' E' k => k true E') (fun s' E' k_1 => wE pg.G (wC pg.G pg.F (k + 1)) c18_1 s' E' k_1 noX) (fun _ => True)
      [some (.ref p), some a, some b, some c, o1, o2, o3, o4, o5] (l.map D.str) E q
  | [], E, t, n, q, hp, hv, h => ⟨trivial, by have := h [] t rfl hv; rwa [En.set_id hp] at this⟩
  | y :: l, E, t, n, q, hp, hv, h => by
    rw [List.length_cons] at hv
    rw [List.map_cons]
    refine ⟨trivial, (by (try simp only [List.length_cons, List.length_nil]); omega), ?_⟩
    dsimp only
    rw [if_pos rfl]
    simp only [c18_1]
    simp only [wSs, wS, wE, wA, wT, wB, wI, wG, wGs, tgsL, wipeD, startD, List.map_cons, List.map_nil, List.length_cons, List.length_nil, List.replicate, List.cons_append, List.nil_append, List.append_nil, List.set_cons_zero, List.set_cons_succ, List.set_nil, getv0, getvS, truR_bl, asI_i, asB_b, asS_s, asT_t, optI_0, optI_1, opt_some, ixR_tup, ixR_lst, ixR_set, ixR_str, asQ_tup, asQ_lst, asQ_set, asL_lst, asL_set, asC_set, lenR_tup, lenR_lst, lenR_str, lenR_set, atI0, atI1, atI2, ixN0, ixN2, lv_lst, lv_set, seq_lst, seq_tup, seq_str, bop_ai, bop_as, bop_al, bop_si, bop_mi, bop_ms, bop_mb, bop_mo, bop_fd, bop_pw, cmp_lti, cmp_lei, cmp_gti, cmp_gei, cmp_eqi, cmp_nei, cmp_eqs, cmp_nes, cmp_isin, cmp_nin, in_sign, in_tup, bm_app, bm_pop, bm_clear, bm_join, bm_split, bm_ends, bmT_app, bmT_pop, bmT_clear, bmT_join, bmT_split, bmT_ends, newL_f, newL_t, DL.bi_len, DL.bi_all, DL.bi_any, DL.bi_abs, DL.bi_max, DL.bi_min, DL.bi_inti, DL.bi_intb, DL.bi_str, DL.bi_repr, DL.bi_sorted, DL.bi_list, tr_non, tr_bl, tr_int, tr_str, tr_tup, tr_lst, DL.sl_str, DL.sl_lst, En.set_set, if_true, if_false, ite_true, ite_false, Bool.false_eq_true, Nat.zero_lt_succ, true_and, decide_true, decide_false, Bool.not_true, Bool.not_false, List.length_map, asBls_one, all_one]
    refine scoop_spec (t := t) (b := n + l.length) hp hv (by decide) (by decide) fun v t' v0 v1 hv' => ?_
    simp only [wSs, wS, wE, wA, wT, wB, wI, wG, wGs, tgsL, wipeD, startD, List.map_cons, List.map_nil, List.length_cons, List.length_nil, List.replicate, List.cons_append, List.nil_append, List.append_nil, List.set_cons_zero, List.set_cons_succ, List.set_nil, getv0, getvS, truR_bl, asI_i, asB_b, asS_s, asT_t, optI_0, optI_1, opt_some, ixR_tup, ixR_lst, ixR_set, ixR_str, asQ_tup, asQ_lst, asQ_set, asL_lst, asL_set, asC_set, lenR_tup, lenR_lst, lenR_str, lenR_set, atI0, atI1, atI2, ixN0, ixN2, lv_lst, lv_set, seq_lst, seq_tup, seq_str, bop_ai, bop_as, bop_al, bop_si, bop_mi, bop_ms, bop_mb, bop_mo, bop_fd, bop_pw, cmp_lti, cmp_lei, cmp_gti, cmp_gei, cmp_eqi, cmp_nei, cmp_eqs, cmp_nes, cmp_isin, cmp_nin, in_sign, in_tup, bm_app, bm_pop, bm_clear, bm_join, bm_split, bm_ends, bmT_app, bmT_pop, bmT_clear, bmT_join, bmT_split, bmT_ends, newL_f, newL_t, DL.bi_len, DL.bi_all, DL.bi_any, DL.bi_abs, DL.bi_max, DL.bi_min, DL.bi_inti, DL.bi_intb, DL.bi_str, DL.bi_repr, DL.bi_sorted, DL.bi_list, tr_non, tr_bl, tr_int, tr_str, tr_tup, tr_lst, DL.sl_str, DL.sl_lst, En.set_set, if_true, if_false, ite_true, ite_false, Bool.false_eq_true, Nat.zero_lt_succ, true_and, decide_true, decide_false, Bool.not_true, Bool.not_false, List.length_map, asBls_one, all_one]
    refine ⟨by omega, guestsL l _ t' n _ (En.set_same _ _ _) hv' fun gs t2 hg hv2 => ?_⟩
    rw [En.set_set]
    exact h (⟨y, decide (0 < v)⟩ :: gs) t2 (by rw [List.map_cons, hg]) hv2
theorem housesL {k : Nat} {p r : Addr} (hpr : p ≠ r) {a c : D} {ns : List (List Nat)} {m0 m1 : Nat} (hm1 : m1 ≤ 9) (hns : m1 ≤ ns.length) (hl2 : ns.length ≤ 100) (hnd : ns.Nodup) {D' : EndD} :
    ∀ (l : List (List Nat)) (E : En) (t : Int × Int × Int) (n : Nat) (hs : List House) (o6 o7 o8 : Option D), E p = some (potC t) → E r = some (.lst (hs.map hD)) → hs.length + l.length ≤ 50 → PV (n + l.length * 11) t →
      (∀ h ∈ hs, h.rm < 10 ^ 9 ∧ h.od.Nodup ∧ ∀ y ∈ h.od, y ∈ ns.take m1) →
      (∀ (hs' : List House) t' s6 s7, hs'.map House.nm = hs.map House.nm ++ l → (∀ h ∈ hs', h.rm < 10 ^ 9 ∧ h.od.Nodup ∧ ∀ y ∈ h.od, y ∈ ns.take m1) → PV n t' →
        D'.nx [some (.ref p), some a, some (.lst [.int m0, .int m1]), some (.lst (ns.map .str)), some c, some (.ref r), s6, s7, o8] ((E.set p (potC t')).set r (.lst (hs'.map hD)))) →
      wFor (fun d s' E' k => 6 < List.length s' ∧ k (List.set s' 6 (some d)) E') (wSs pg.G (wC pg.G pg.F (k + 2)) f18_2) (fun _ => True) D' (l.map D.str)
        [some (.ref p), some a, some (.lst [.int m0, .int m1]), some (.lst (ns.map .str)), some c, some (.ref r), o6, o7, o8] E
  | [], E, t, n, hs, o6, o7, o8, hp, hr, hz, hv, hh, h => by
    refine ⟨trivial, ?_⟩
    have := h hs t o6 o7 (by rw [List.append_nil]) hh (by simpa using hv)
    rw [En.set_id hp, En.set_id hr] at this
    exact this
  | y :: l, E, t, n, hs, o6, o7, o8, hp, hr, hz, hv, hh, h => by
    rw [List.length_cons] at hv hz
    rw [List.map_cons]
    refine ⟨trivial, (by (try simp only [List.length_cons, List.length_nil]); omega), ?_⟩
    simp only [f18_2]
    simp only [wSs, wS, wE, wA, wT, wB, wI, wG, wGs, tgsL, wipeD, startD, List.map_cons, List.map_nil, List.length_cons, List.length_nil, List.replicate, List.cons_append, List.nil_append, List.append_nil, List.set_cons_zero, List.set_cons_succ, List.set_nil, getv0, getvS, truR_bl, asI_i, asB_b, asS_s, asT_t, optI_0, optI_1, opt_some, ixR_tup, ixR_lst, ixR_set, ixR_str, asQ_tup, asQ_lst, asQ_set, asL_lst, asL_set, asC_set, lenR_tup, lenR_lst, lenR_str, lenR_set, atI0, atI1, atI2, ixN0, ixN2, lv_lst, lv_set, seq_lst, seq_tup, seq_str, bop_ai, bop_as, bop_al, bop_si, bop_mi, bop_ms, bop_mb, bop_mo, bop_fd, bop_pw, cmp_lti, cmp_lei, cmp_gti, cmp_gei, cmp_eqi, cmp_nei, cmp_eqs, cmp_nes, cmp_isin, cmp_nin, in_sign, in_tup, bm_app, bm_pop, bm_clear, bm_join, bm_split, bm_ends, bmT_app, bmT_pop, bmT_clear, bmT_join, bmT_split, bmT_ends, newL_f, newL_t, DL.bi_len, DL.bi_all, DL.bi_any, DL.bi_abs, DL.bi_max, DL.bi_min, DL.bi_inti, DL.bi_intb, DL.bi_str, DL.bi_repr, DL.bi_sorted, DL.bi_list, tr_non, tr_bl, tr_int, tr_str, tr_tup, tr_lst, DL.sl_str, DL.sl_lst, En.set_set, if_true, if_false, ite_true, ite_false, Bool.false_eq_true, Nat.zero_lt_succ, true_and, decide_true, decide_false, Bool.not_true, Bool.not_false, List.length_map, asBls_one, all_one]
    refine ⟨by decide, by decide, by decide, scoop_spec (t := t) (b := n + l.length * 11 + 10) hp (hv.mono (by omega)) (by decide) (by decide) fun v t' v0 v1 hv' => ?_⟩
    simp only [wSs, wS, wE, wA, wT, wB, wI, wG, wGs, tgsL, wipeD, startD, List.map_cons, List.map_nil, List.length_cons, List.length_nil, List.replicate, List.cons_append, List.nil_append, List.append_nil, List.set_cons_zero, List.set_cons_succ, List.set_nil, getv0, getvS, truR_bl, asI_i, asB_b, asS_s, asT_t, optI_0, optI_1, opt_some, ixR_tup, ixR_lst, ixR_set, ixR_str, asQ_tup, asQ_lst, asQ_set, asL_lst, asL_set, asC_set, lenR_tup, lenR_lst, lenR_str, lenR_set, atI0, atI1, atI2, ixN0, ixN2, lv_lst, lv_set, seq_lst, seq_tup, seq_str, bop_ai, bop_as, bop_al, bop_si, bop_mi, bop_ms, bop_mb, bop_mo, bop_fd, bop_pw, cmp_lti, cmp_lei, cmp_gti, cmp_gei, cmp_eqi, cmp_nei, cmp_eqs, cmp_nes, cmp_isin, cmp_nin, in_sign, in_tup, bm_app, bm_pop, bm_clear, bm_join, bm_split, bm_ends, bmT_app, bmT_pop, bmT_clear, bmT_join, bmT_split, bmT_ends, newL_f, newL_t, DL.bi_len, DL.bi_all, DL.bi_any, DL.bi_abs, DL.bi_max, DL.bi_min, DL.bi_inti, DL.bi_intb, DL.bi_str, DL.bi_repr, DL.bi_sorted, DL.bi_list, tr_non, tr_bl, tr_int, tr_str, tr_tup, tr_lst, DL.sl_str, DL.sl_lst, En.set_set, if_true, if_false, ite_true, ite_false, Bool.false_eq_true, Nat.zero_lt_succ, true_and, decide_true, decide_false, Bool.not_true, Bool.not_false, List.length_map, asBls_one, all_one]
    have hroom : ∃ rm : Nat, atI [D.int 0, D.int 1, D.int 1, D.int 2, D.int ((m1 : Int) + 1), D.int (10 ^ Int.toNat 9 - 1)] v = some (.int rm) ∧ rm < 10 ^ 9 := by
      have : v = 0 ∨ v = 1 ∨ v = 2 ∨ v = 3 ∨ v = 4 ∨ v = 5 := by omega
      rcases this with rfl | rfl | rfl | rfl | rfl | rfl
      · exact ⟨0, rfl, by decide⟩
      · exact ⟨1, rfl, by decide⟩
      · exact ⟨1, rfl, by decide⟩
      · exact ⟨2, rfl, by decide⟩
      · exact ⟨m1 + 1, rfl, by omega⟩
      · refine ⟨999999999, ?_, by decide⟩
        rw [show (10 : Int) ^ Int.toNat 9 - 1 = 999999999 by decide +kernel]
        rfl
    obtain ⟨rm, e1, e2⟩ := hroom
    rw [e1]
    simp only [wSs, wS, wE, wA, wT, wB, wI, wG, wGs, tgsL, wipeD, startD, List.map_cons, List.map_nil, List.length_cons, List.length_nil, List.replicate, List.cons_append, List.nil_append, List.append_nil, List.set_cons_zero, List.set_cons_succ, List.set_nil, getv0, getvS, truR_bl, asI_i, asB_b, asS_s, asT_t, optI_0, optI_1, opt_some, ixR_tup, ixR_lst, ixR_set, ixR_str, asQ_tup, asQ_lst, asQ_set, asL_lst, asL_set, asC_set, lenR_tup, lenR_lst, lenR_str, lenR_set, atI0, atI1, atI2, ixN0, ixN2, lv_lst, lv_set, seq_lst, seq_tup, seq_str, bop_ai, bop_as, bop_al, bop_si, bop_mi, bop_ms, bop_mb, bop_mo, bop_fd, bop_pw, cmp_lti, cmp_lei, cmp_gti, cmp_gei, cmp_eqi, cmp_nei, cmp_eqs, cmp_nes, cmp_isin, cmp_nin, in_sign, in_tup, bm_app, bm_pop, bm_clear, bm_join, bm_split, bm_ends, bmT_app, bmT_pop, bmT_clear, bmT_join, bmT_split, bmT_ends, newL_f, newL_t, DL.bi_len, DL.bi_all, DL.bi_any, DL.bi_abs, DL.bi_max, DL.bi_min, DL.bi_inti, DL.bi_intb, DL.bi_str, DL.bi_repr, DL.bi_sorted, DL.bi_list, tr_non, tr_bl, tr_int, tr_str, tr_tup, tr_lst, DL.sl_str, DL.sl_lst, En.set_set, if_true, if_false, ite_true, ite_false, Bool.false_eq_true, Nat.zero_lt_succ, true_and, decide_true, decide_false, Bool.not_true, Bool.not_false, List.length_map, asBls_one, all_one]
    have hr2 : (E.set p (potC t')) r = some (.lst (hs.map hD)) := by rw [En.set_ne _ _ hpr.symm]; exact hr
    rw [asL_ref hr2, cut_to, ← List.map_take]
    refine ⟨by omega, by (try simp only [List.length_map, List.length_take]); omega, ?_⟩
    have htk : (ns.take m1).length = m1 := by rw [List.length_take]; omega
    refine order_spec (t := t') (gs := ns.take m1) (b := n + l.length * 11) (by rw [En.set_same]) (hv'.mono (by omega)) (by omega) (by omega) (by omega) fun ys zs t2 hpm hv2 => ?_
    simp only [wSs, wS, wE, wA, wT, wB, wI, wG, wGs, tgsL, wipeD, startD, List.map_cons, List.map_nil, List.length_cons, List.length_nil, List.replicate, List.cons_append, List.nil_append, List.append_nil, List.set_cons_zero, List.set_cons_succ, List.set_nil, getv0, getvS, truR_bl, asI_i, asB_b, asS_s, asT_t, optI_0, optI_1, opt_some, ixR_tup, ixR_lst, ixR_set, ixR_str, asQ_tup, asQ_lst, asQ_set, asL_lst, asL_set, asC_set, lenR_tup, lenR_lst, lenR_str, lenR_set, atI0, atI1, atI2, ixN0, ixN2, lv_lst, lv_set, seq_lst, seq_tup, seq_str, bop_ai, bop_as, bop_al, bop_si, bop_mi, bop_ms, bop_mb, bop_mo, bop_fd, bop_pw, cmp_lti, cmp_lei, cmp_gti, cmp_gei, cmp_eqi, cmp_nei, cmp_eqs, cmp_nes, cmp_isin, cmp_nin, in_sign, in_tup, bm_app, bm_pop, bm_clear, bm_join, bm_split, bm_ends, bmT_app, bmT_pop, bmT_clear, bmT_join, bmT_split, bmT_ends, newL_f, newL_t, DL.bi_len, DL.bi_all, DL.bi_any, DL.bi_abs, DL.bi_max, DL.bi_min, DL.bi_inti, DL.bi_intb, DL.bi_str, DL.bi_repr, DL.bi_sorted, DL.bi_list, tr_non, tr_bl, tr_int, tr_str, tr_tup, tr_lst, DL.sl_str, DL.sl_lst, En.set_set, if_true, if_false, ite_true, ite_false, Bool.false_eq_true, Nat.zero_lt_succ, true_and, decide_true, decide_false, Bool.not_true, Bool.not_false, List.length_map, asBls_one, all_one]
    have hr3 : (E.set p (potC t2)) r = some (.lst (hs.map hD)) := by rw [En.set_ne _ _ hpr.symm]; exact hr
    rw [asC_ref hr3]
    refine ⟨by omega, by (try simp only [List.length_map]); omega, _, En.le_refl _, ?_⟩
    have ndy : (ns.take m1).Nodup := hnd.sublist (List.take_sublist _ _)
    have nd2 := hpm.nodup_iff.mpr ndy
    have hy1 : ys.Nodup := nd2.sublist (List.sublist_append_left _ _)
    have e5 : hs.map hD ++ [D.tup [D.str y, D.int rm, D.lst (ys.map D.str)]] = (hs ++ [(⟨y, rm, ys⟩ : House)]).map hD := by rw [List.map_append]; rfl
    rw [e5]
    refine housesL hpr hm1 hns hl2 hnd l _ t2 n (hs ++ [(⟨y, rm, ys⟩ : House)]) _ _ _ ?_ (En.set_same _ _ _) (by rw [List.length_append]; simp; omega) hv2 (fun z hz2 => ?_) fun hs' t3 s6 s7 k1 k2 k3 => ?_
    · rw [En.set_ne _ _ hpr, En.set_same]
    · rcases List.mem_append.mp hz2 with hz2 | hz2
      · exact hh z hz2
      · rw [List.mem_singleton] at hz2
        subst hz2
        exact ⟨e2, hy1, fun w hw => hpm.mem_iff.mp (List.mem_append_left _ hw)⟩
    · have := h hs' t3 s6 s7 (by rw [k1, List.map_append, List.append_assoc]; rfl) k2 k3
      rw [En.set_comm _ hpr.symm, En.set_set, En.set_set]
      exact this
theorem En.le_trans {E F G : En} (h : E.le F) (k : F.le G) : E.le G := fun a c e => k a c (h a c e)
theorem town_spec {k : Nat} {E : En} {p : Addr} {t : Int × Int × Int} {m : Nat} {b : Nat} {q : QE} {x : Nat → En → Prop} (hp : E p = some (potC t)) (hv : PV (b + 1000) t) (hm : m ≤ 9)
    (h : ∀ (hs : List House) (gs : List Guest) t', WOk hs gs → PV b t' → q (.tup [.lst (hs.map hD), .lst (gs.map gD)]) (E.set p (potC t'))) : CL (k + 3) i__law_town [.ref p, .int m] E q x := by
  refine wC_go (fn := ⟨2, 9, b18⟩) rfl rfl ?_
  simp only [b18]
  simp only [wSs, wS, wE, wA, wT, wB, wI, wG, wGs, tgsL, wipeD, startD, List.map_cons, List.map_nil, List.length_cons, List.length_nil, List.replicate, List.cons_append, List.nil_append, List.append_nil, List.set_cons_zero, List.set_cons_succ, List.set_nil, getv0, getvS, truR_bl, asI_i, asB_b, asS_s, asT_t, optI_0, optI_1, opt_some, ixR_tup, ixR_lst, ixR_set, ixR_str, asQ_tup, asQ_lst, asQ_set, asL_lst, asL_set, asC_set, lenR_tup, lenR_lst, lenR_str, lenR_set, atI0, atI1, atI2, ixN0, ixN2, lv_lst, lv_set, seq_lst, seq_tup, seq_str, bop_ai, bop_as, bop_al, bop_si, bop_mi, bop_ms, bop_mb, bop_mo, bop_fd, bop_pw, cmp_lti, cmp_lei, cmp_gti, cmp_gei, cmp_eqi, cmp_nei, cmp_eqs, cmp_nes, cmp_isin, cmp_nin, in_sign, in_tup, bm_app, bm_pop, bm_clear, bm_join, bm_split, bm_ends, bmT_app, bmT_pop, bmT_clear, bmT_join, bmT_split, bmT_ends, newL_f, newL_t, DL.bi_len, DL.bi_all, DL.bi_any, DL.bi_abs, DL.bi_max, DL.bi_min, DL.bi_inti, DL.bi_intb, DL.bi_str, DL.bi_repr, DL.bi_sorted, DL.bi_list, tr_non, tr_bl, tr_int, tr_str, tr_tup, tr_lst, DL.sl_str, DL.sl_lst, En.set_set, if_true, if_false, ite_true, ite_false, Bool.false_eq_true, Nat.zero_lt_succ, true_and, decide_true, decide_false, Bool.not_true, Bool.not_false, List.length_map, asBls_one, all_one]
  refine ⟨by decide, by decide, by rw [rngD_len]; decide, ?_⟩
  rw [show rngD 0 (Int.toNat 2) = [D.int 0, D.int 1] from rfl]
  refine ⟨trivial, (by (try simp only [List.length_cons, List.length_nil]); omega), ?_⟩
  dsimp only
  rw [if_pos rfl]
  simp only [c18_0]
  simp only [wSs, wS, wE, wA, wT, wB, wI, wG, wGs, tgsL, wipeD, startD, List.map_cons, List.map_nil, List.length_cons, List.length_nil, List.replicate, List.cons_append, List.nil_append, List.append_nil, List.set_cons_zero, List.set_cons_succ, List.set_nil, getv0, getvS, truR_bl, asI_i, asB_b, asS_s, asT_t, optI_0, optI_1, opt_some, ixR_tup, ixR_lst, ixR_set, ixR_str, asQ_tup, asQ_lst, asQ_set, asL_lst, asL_set, asC_set, lenR_tup, lenR_lst, lenR_str, lenR_set, atI0, atI1, atI2, ixN0, ixN2, lv_lst, lv_set, seq_lst, seq_tup, seq_str, bop_ai, bop_as, bop_al, bop_si, bop_mi, bop_ms, bop_mb, bop_mo, bop_fd, bop_pw, cmp_lti, cmp_lei, cmp_gti, cmp_gei, cmp_eqi, cmp_nei, cmp_eqs, cmp_nes, cmp_isin, cmp_nin, in_sign, in_tup, bm_app, bm_pop, bm_clear, bm_join, bm_split, bm_ends, bmT_app, bmT_pop, bmT_clear, bmT_join, bmT_split, bmT_ends, newL_f, newL_t, DL.bi_len, DL.bi_all, DL.bi_any, DL.bi_abs, DL.bi_max, DL.bi_min, DL.bi_inti, DL.bi_intb, DL.bi_str, DL.bi_repr, DL.bi_sorted, DL.bi_list, tr_non, tr_bl, tr_int, tr_str, tr_tup, tr_lst, DL.sl_str, DL.sl_lst, En.set_set, if_true, if_false, ite_true, ite_false, Bool.false_eq_true, Nat.zero_lt_succ, true_and, decide_true, decide_false, Bool.not_true, Bool.not_false, List.length_map, asBls_one, all_one]
  refine scoop_spec (t := t) (b := b + 999) hp hv (by omega) (by omega) fun v t1 v0 v1 hv1 => ?_
  refine ⟨trivial, (by (try simp only [List.length_cons, List.length_nil]); omega), ?_⟩
  dsimp only
  rw [if_pos rfl]
  simp only [wSs, wS, wE, wA, wT, wB, wI, wG, wGs, tgsL, wipeD, startD, List.map_cons, List.map_nil, List.length_cons, List.length_nil, List.replicate, List.cons_append, List.nil_append, List.append_nil, List.set_cons_zero, List.set_cons_succ, List.set_nil, getv0, getvS, truR_bl, asI_i, asB_b, asS_s, asT_t, optI_0, optI_1, opt_some, ixR_tup, ixR_lst, ixR_set, ixR_str, asQ_tup, asQ_lst, asQ_set, asL_lst, asL_set, asC_set, lenR_tup, lenR_lst, lenR_str, lenR_set, atI0, atI1, atI2, ixN0, ixN2, lv_lst, lv_set, seq_lst, seq_tup, seq_str, bop_ai, bop_as, bop_al, bop_si, bop_mi, bop_ms, bop_mb, bop_mo, bop_fd, bop_pw, cmp_lti, cmp_lei, cmp_gti, cmp_gei, cmp_eqi, cmp_nei, cmp_eqs, cmp_nes, cmp_isin, cmp_nin, in_sign, in_tup, bm_app, bm_pop, bm_clear, bm_join, bm_split, bm_ends, bmT_app, bmT_pop, bmT_clear, bmT_join, bmT_split, bmT_ends, newL_f, newL_t, DL.bi_len, DL.bi_all, DL.bi_any, DL.bi_abs, DL.bi_max, DL.bi_min, DL.bi_inti, DL.bi_intb, DL.bi_str, DL.bi_repr, DL.bi_sorted, DL.bi_list, tr_non, tr_bl, tr_int, tr_str, tr_tup, tr_lst, DL.sl_str, DL.sl_lst, En.set_set, if_true, if_false, ite_true, ite_false, Bool.false_eq_true, Nat.zero_lt_succ, true_and, decide_true, decide_false, Bool.not_true, Bool.not_false, List.length_map, asBls_one, all_one]
  refine scoop_spec (t := t1) (b := b + 998) (En.set_same _ _ _) hv1 (by omega) (by omega) fun v' t2 v0' v1' hv2 => ?_
  refine ⟨trivial, ?_⟩
  obtain ⟨m0, rfl⟩ : ∃ j : Nat, v = (j : Int) := ⟨v.toNat, (Int.toNat_of_nonneg v0).symm⟩
  obtain ⟨m1, rfl⟩ : ∃ j : Nat, v' = (j : Int) := ⟨v'.toNat, (Int.toNat_of_nonneg v0').symm⟩
  simp only [wSs, wS, wE, wA, wT, wB, wI, wG, wGs, tgsL, wipeD, startD, List.map_cons, List.map_nil, List.length_cons, List.length_nil, List.replicate, List.cons_append, List.nil_append, List.append_nil, List.set_cons_zero, List.set_cons_succ, List.set_nil, getv0, getvS, truR_bl, asI_i, asB_b, asS_s, asT_t, optI_0, optI_1, opt_some, ixR_tup, ixR_lst, ixR_set, ixR_str, asQ_tup, asQ_lst, asQ_set, asL_lst, asL_set, asC_set, lenR_tup, lenR_lst, lenR_str, lenR_set, atI0, atI1, atI2, ixN0, ixN2, lv_lst, lv_set, seq_lst, seq_tup, seq_str, bop_ai, bop_as, bop_al, bop_si, bop_mi, bop_ms, bop_mb, bop_mo, bop_fd, bop_pw, cmp_lti, cmp_lei, cmp_gti, cmp_gei, cmp_eqi, cmp_nei, cmp_eqs, cmp_nes, cmp_isin, cmp_nin, in_sign, in_tup, bm_app, bm_pop, bm_clear, bm_join, bm_split, bm_ends, bmT_app, bmT_pop, bmT_clear, bmT_join, bmT_split, bmT_ends, newL_f, newL_t, DL.bi_len, DL.bi_all, DL.bi_any, DL.bi_abs, DL.bi_max, DL.bi_min, DL.bi_inti, DL.bi_intb, DL.bi_str, DL.bi_repr, DL.bi_sorted, DL.bi_list, tr_non, tr_bl, tr_int, tr_str, tr_tup, tr_lst, DL.sl_str, DL.sl_lst, En.set_set, if_true, if_false, ite_true, ite_false, Bool.false_eq_true, Nat.zero_lt_succ, true_and, decide_true, decide_false, Bool.not_true, Bool.not_false, List.length_map, asBls_one, all_one]
  refine ⟨by omega, by omega, ?_⟩
  rw [show (m0 : Int) + (m1 : Int) = ((m0 + m1 : Nat) : Int) by omega]
  refine names_spec (m := m0 + m1) (t := t2) (b := b + 900) (En.set_same _ _ _) (hv2.mono (by omega)) (by omega) fun ns t3 hl hnd hgood hv3 => ?_
  simp only [wSs, wS, wE, wA, wT, wB, wI, wG, wGs, tgsL, wipeD, startD, List.map_cons, List.map_nil, List.length_cons, List.length_nil, List.replicate, List.cons_append, List.nil_append, List.append_nil, List.set_cons_zero, List.set_cons_succ, List.set_nil, getv0, getvS, truR_bl, asI_i, asB_b, asS_s, asT_t, optI_0, optI_1, opt_some, ixR_tup, ixR_lst, ixR_set, ixR_str, asQ_tup, asQ_lst, asQ_set, asL_lst, asL_set, asC_set, lenR_tup, lenR_lst, lenR_str, lenR_set, atI0, atI1, atI2, ixN0, ixN2, lv_lst, lv_set, seq_lst, seq_tup, seq_str, bop_ai, bop_as, bop_al, bop_si, bop_mi, bop_ms, bop_mb, bop_mo, bop_fd, bop_pw, cmp_lti, cmp_lei, cmp_gti, cmp_gei, cmp_eqi, cmp_nei, cmp_eqs, cmp_nes, cmp_isin, cmp_nin, in_sign, in_tup, bm_app, bm_pop, bm_clear, bm_join, bm_split, bm_ends, bmT_app, bmT_pop, bmT_clear, bmT_join, bmT_split, bmT_ends, newL_f, newL_t, DL.bi_len, DL.bi_all, DL.bi_any, DL.bi_abs, DL.bi_max, DL.bi_min, DL.bi_inti, DL.bi_intb, DL.bi_str, DL.bi_repr, DL.bi_sorted, DL.bi_list, tr_non, tr_bl, tr_int, tr_str, tr_tup, tr_lst, DL.sl_str, DL.sl_lst, En.set_set, if_true, if_false, ite_true, ite_false, Bool.false_eq_true, Nat.zero_lt_succ, true_and, decide_true, decide_false, Bool.not_true, Bool.not_false, List.length_map, asBls_one, all_one]
  rw [cut_to, cut_from, ← List.map_take, ← List.map_drop]
  have htk : (ns.take m1).length = m1 := by rw [List.length_take]; omega
  have hdk : (ns.drop m1).length = m0 := by rw [List.length_drop]; omega
  refine ⟨by omega, by (try simp only [List.length_map]); omega, by (try simp only [List.length_map]); omega, ?_⟩
  refine guestsL (k := k + 1) (ns.take m1) _ t3 (b + 800) _ (En.set_same _ _ _) (hv3.mono (by omega)) fun gs t4 hg hv4 => ?_
  simp only [wSs, wS, wE, wA, wT, wB, wI, wG, wGs, tgsL, wipeD, startD, List.map_cons, List.map_nil, List.length_cons, List.length_nil, List.replicate, List.cons_append, List.nil_append, List.append_nil, List.set_cons_zero, List.set_cons_succ, List.set_nil, getv0, getvS, truR_bl, asI_i, asB_b, asS_s, asT_t, optI_0, optI_1, opt_some, ixR_tup, ixR_lst, ixR_set, ixR_str, asQ_tup, asQ_lst, asQ_set, asL_lst, asL_set, asC_set, lenR_tup, lenR_lst, lenR_str, lenR_set, atI0, atI1, atI2, ixN0, ixN2, lv_lst, lv_set, seq_lst, seq_tup, seq_str, bop_ai, bop_as, bop_al, bop_si, bop_mi, bop_ms, bop_mb, bop_mo, bop_fd, bop_pw, cmp_lti, cmp_lei, cmp_gti, cmp_gei, cmp_eqi, cmp_nei, cmp_eqs, cmp_nes, cmp_isin, cmp_nin, in_sign, in_tup, bm_app, bm_pop, bm_clear, bm_join, bm_split, bm_ends, bmT_app, bmT_pop, bmT_clear, bmT_join, bmT_split, bmT_ends, newL_f, newL_t, DL.bi_len, DL.bi_all, DL.bi_any, DL.bi_abs, DL.bi_max, DL.bi_min, DL.bi_inti, DL.bi_intb, DL.bi_str, DL.bi_repr, DL.bi_sorted, DL.bi_list, tr_non, tr_bl, tr_int, tr_str, tr_tup, tr_lst, DL.sl_str, DL.sl_lst, En.set_set, if_true, if_false, ite_true, ite_false, Bool.false_eq_true, Nat.zero_lt_succ, true_and, decide_true, decide_false, Bool.not_true, Bool.not_false, List.length_map, asBls_one, all_one]
  have hgl : gs.length = m1 := by rw [← List.length_map (f := Guest.nm), hg, htk]
  refine ⟨by (try simp only [List.length_map]); omega, by omega, by omega, fun r hr => ⟨by omega, by (try simp only [List.length_map]); omega, ?_⟩⟩
  have hpr : p ≠ r := fun z => by subst z; rw [En.set_same] at hr; cases hr
  have hr0 : E r = none := by rw [En.set_ne _ _ hpr.symm] at hr; exact hr
  refine housesL hpr (by omega) (by omega) (by omega) hnd (ns.drop m1) _ t4 (b + 600) [] none none none (by rw [En.set_ne _ _ hpr, En.set_same]) (by rw [En.set_same]; rfl) (by simp; omega) (hv4.mono (by omega)) (fun z hz => by cases hz) fun hs' t5 s6 s7 k1 k2 k3 => ?_
  simp only [wSs, wS, wE, wA, wT, wB, wI, wG, wGs, tgsL, wipeD, startD, List.map_cons, List.map_nil, List.length_cons, List.length_nil, List.replicate, List.cons_append, List.nil_append, List.append_nil, List.set_cons_zero, List.set_cons_succ, List.set_nil, getv0, getvS, truR_bl, asI_i, asB_b, asS_s, asT_t, optI_0, optI_1, opt_some, ixR_tup, ixR_lst, ixR_set, ixR_str, asQ_tup, asQ_lst, asQ_set, asL_lst, asL_set, asC_set, lenR_tup, lenR_lst, lenR_str, lenR_set, atI0, atI1, atI2, ixN0, ixN2, lv_lst, lv_set, seq_lst, seq_tup, seq_str, bop_ai, bop_as, bop_al, bop_si, bop_mi, bop_ms, bop_mb, bop_mo, bop_fd, bop_pw, cmp_lti, cmp_lei, cmp_gti, cmp_gei, cmp_eqi, cmp_nei, cmp_eqs, cmp_nes, cmp_isin, cmp_nin, in_sign, in_tup, bm_app, bm_pop, bm_clear, bm_join, bm_split, bm_ends, bmT_app, bmT_pop, bmT_clear, bmT_join, bmT_split, bmT_ends, newL_f, newL_t, DL.bi_len, DL.bi_all, DL.bi_any, DL.bi_abs, DL.bi_max, DL.bi_min, DL.bi_inti, DL.bi_intb, DL.bi_str, DL.bi_repr, DL.bi_sorted, DL.bi_list, tr_non, tr_bl, tr_int, tr_str, tr_tup, tr_lst, DL.sl_str, DL.sl_lst, En.set_set, if_true, if_false, ite_true, ite_false, Bool.false_eq_true, Nat.zero_lt_succ, true_and, decide_true, decide_false, Bool.not_true, Bool.not_false, List.length_map, asBls_one, all_one]
  refine ⟨by omega, E.set p (potC t5), ?_, ?_⟩
  · refine le_pot hr0 hpr ?_ fun a h1 h2 => ?_
    · unfold En.del
      rw [if_neg hpr, En.set_ne _ _ hpr, En.set_same]
    · unfold En.del
      rw [if_neg h2]
      repeat (first | rw [En.set_ne _ _ h2] | rw [En.set_ne _ _ h1])
  · have hperm : (gs.map Guest.nm ++ hs'.map House.nm) = ns := by
      rw [hg, k1]
      simp
    refine h hs' gs t5 ⟨by rw [hperm]; exact hnd, fun g hgm => hgood _ ?_, fun z hz => hgood _ ?_, fun z hz => (k2 z hz).1, fun z hz => ⟨(k2 z hz).2.1, fun y hy => by rw [hg]; exact (k2 z hz).2.2 y hy⟩, ?_, by omega⟩ (k3.mono (by omega))
    · rw [← hperm]; exact List.mem_append_left _ (List.mem_map_of_mem hgm)
    · rw [← hperm]; exact List.mem_append_right _ (List.mem_map_of_mem hz)
    · have := congrArg List.length k1
      rw [List.length_map] at this
      simp at this
      omega
end KX

set_option Elab.async false
set_option linter.all false
set_option maxRecDepth 100000
set_option maxHeartbeats 4000000
namespace KX
open PySem L2 DL
theorem g0 : pg.G 0 = some (.str abc) := rfl
theorem g1 : pg.G 1 = some (.int 8) := rfl
theorem goodB_iff {x : List Nat} (h : goodB x = true) : 1 ≤ x.length ∧ x.length ≤ 8 ∧ ∀ c ∈ x, c ∈ abc := by
  unfold goodB at h
  simp only [Bool.and_eq_true, decide_eq_true_eq, List.all_eq_true] at h
  exact ⟨h.1.1, h.1.2, h.2⟩
theorem name_spec {k : Nat} {E : En} {y : List Nat} {q : QE} {x : Nat → En → Prop} (hy : goodB y = true) (h : q (.bl true) E) : CL (k + 1) i_is_name [.str y] E q x := by
  obtain ⟨h1, h2, h3⟩ := goodB_iff hy
  refine wC_go (fn := ⟨1, 2, b1⟩) rfl rfl ?_
  simp only [b1]
  simp only [wSs, wS, wE, wA, wT, wB, wI, wG, wGs, tgsL, wipeD, startD, List.map_cons, List.map_nil, List.length_cons, List.length_nil, List.replicate, List.cons_append, List.nil_append, List.append_nil, List.set_cons_zero, List.set_cons_succ, List.set_nil, getv0, getvS, truR_bl, asI_i, asB_b, asS_s, asT_t, optI_0, optI_1, opt_some, ixR_tup, ixR_lst, ixR_set, ixR_str, asQ_tup, asQ_lst, asQ_set, asL_lst, asL_set, asC_set, lenR_tup, lenR_lst, lenR_str, lenR_set, atI0, atI1, atI2, ixN0, ixN2, lv_lst, lv_set, seq_lst, seq_tup, seq_str, bop_ai, bop_as, bop_al, bop_si, bop_mi, bop_ms, bop_mb, bop_mo, bop_fd, bop_pw, cmp_lti, cmp_lei, cmp_gti, cmp_gei, cmp_eqi, cmp_nei, cmp_eqs, cmp_nes, cmp_isin, cmp_nin, in_sign, in_tup, bm_app, bm_pop, bm_clear, bm_join, bm_split, bm_ends, bmT_app, bmT_pop, bmT_clear, bmT_join, bmT_split, bmT_ends, newL_f, newL_t, DL.bi_len, DL.bi_all, DL.bi_any, DL.bi_abs, DL.bi_max, DL.bi_min, DL.bi_inti, DL.bi_intb, DL.bi_str, DL.bi_repr, DL.bi_sorted, DL.bi_list, tr_non, tr_bl, tr_int, tr_str, tr_tup, tr_lst, DL.sl_str, DL.sl_lst, En.set_set, if_true, if_false, ite_true, ite_false, Bool.false_eq_true, Nat.zero_lt_succ, true_and, decide_true, decide_false, Bool.not_true, Bool.not_false, List.length_map, asBls_one, all_one, g0, g1]
  have e1 : decide ((1 : Int) ≤ (y.length : Int)) = true := decide_eq_true (by omega)
  have e2 : decide ((y.length : Int) ≤ 8) = true := decide_eq_true (by omega)
  rw [e1, e2]
  simp only [decide_true, if_true]
  refine ⟨by omega, by (try simp only [List.length_map]); omega, ?_⟩
  refine wLc_map (fun _ => .bl true) trivial _ _ (fun d hd q1 q2 h1 => ?_) ?_
  · obtain ⟨c, hc, rfl⟩ := List.mem_map.mp hd
    refine ⟨(by (try simp only [List.length_cons, List.length_nil]); omega), ?_⟩
    dsimp only
    rw [if_pos rfl]
    simp only [c1_0]
    simp only [wSs, wS, wE, wA, wT, wB, wI, wG, wGs, tgsL, wipeD, startD, List.map_cons, List.map_nil, List.length_cons, List.length_nil, List.replicate, List.cons_append, List.nil_append, List.append_nil, List.set_cons_zero, List.set_cons_succ, List.set_nil, getv0, getvS, truR_bl, asI_i, asB_b, asS_s, asT_t, optI_0, optI_1, opt_some, ixR_tup, ixR_lst, ixR_set, ixR_str, asQ_tup, asQ_lst, asQ_set, asL_lst, asL_set, asC_set, lenR_tup, lenR_lst, lenR_str, lenR_set, atI0, atI1, atI2, ixN0, ixN2, lv_lst, lv_set, seq_lst, seq_tup, seq_str, bop_ai, bop_as, bop_al, bop_si, bop_mi, bop_ms, bop_mb, bop_mo, bop_fd, bop_pw, cmp_lti, cmp_lei, cmp_gti, cmp_gei, cmp_eqi, cmp_nei, cmp_eqs, cmp_nes, cmp_isin, cmp_nin, in_sign, in_tup, bm_app, bm_pop, bm_clear, bm_join, bm_split, bm_ends, bmT_app, bmT_pop, bmT_clear, bmT_join, bmT_split, bmT_ends, newL_f, newL_t, DL.bi_len, DL.bi_all, DL.bi_any, DL.bi_abs, DL.bi_max, DL.bi_min, DL.bi_inti, DL.bi_intb, DL.bi_str, DL.bi_repr, DL.bi_sorted, DL.bi_list, tr_non, tr_bl, tr_int, tr_str, tr_tup, tr_lst, DL.sl_str, DL.sl_lst, En.set_set, if_true, if_false, ite_true, ite_false, Bool.false_eq_true, Nat.zero_lt_succ, true_and, decide_true, decide_false, Bool.not_true, Bool.not_false, List.length_map, asBls_one, all_one, g0]
    rw [decide_eq_true (h3 c hc)]
    exact h1
  · simp only [wSs, wS, wE, wA, wT, wB, wI, wG, wGs, tgsL, wipeD, startD, List.map_cons, List.map_nil, List.length_cons, List.length_nil, List.replicate, List.cons_append, List.nil_append, List.append_nil, List.set_cons_zero, List.set_cons_succ, List.set_nil, getv0, getvS, truR_bl, asI_i, asB_b, asS_s, asT_t, optI_0, optI_1, opt_some, ixR_tup, ixR_lst, ixR_set, ixR_str, asQ_tup, asQ_lst, asQ_set, asL_lst, asL_set, asC_set, lenR_tup, lenR_lst, lenR_str, lenR_set, atI0, atI1, atI2, ixN0, ixN2, lv_lst, lv_set, seq_lst, seq_tup, seq_str, bop_ai, bop_as, bop_al, bop_si, bop_mi, bop_ms, bop_mb, bop_mo, bop_fd, bop_pw, cmp_lti, cmp_lei, cmp_gti, cmp_gei, cmp_eqi, cmp_nei, cmp_eqs, cmp_nes, cmp_isin, cmp_nin, in_sign, in_tup, bm_app, bm_pop, bm_clear, bm_join, bm_split, bm_ends, bmT_app, bmT_pop, bmT_clear, bmT_join, bmT_split, bmT_ends, newL_f, newL_t, DL.bi_len, DL.bi_all, DL.bi_any, DL.bi_abs, DL.bi_max, DL.bi_min, DL.bi_inti, DL.bi_intb, DL.bi_str, DL.bi_repr, DL.bi_sorted, DL.bi_list, tr_non, tr_bl, tr_int, tr_str, tr_tup, tr_lst, DL.sl_str, DL.sl_lst, En.set_set, if_true, if_false, ite_true, ite_false, Bool.false_eq_true, Nat.zero_lt_succ, true_and, decide_true, decide_false, Bool.not_true, Bool.not_false, List.length_map, asBls_one, all_one]
    exact ⟨by omega, ex_le h⟩
theorem guest_spec {k : Nat} {E : En} {g : Guest} {q : QE} {x : Nat → En → Prop} (hy : goodB g.nm = true) (h : q (.bl true) E) : CL (k + 2) i_is_guest_row [gD g] E q x := by
  refine wC_go (fn := ⟨1, 1, b2⟩) rfl rfl ?_
  simp only [b2]
  unfold gD
  simp only [wSs, wS, wE, wA, wT, wB, wI, wG, wGs, tgsL, wipeD, startD, List.map_cons, List.map_nil, List.length_cons, List.length_nil, List.replicate, List.cons_append, List.nil_append, List.append_nil, List.set_cons_zero, List.set_cons_succ, List.set_nil, getv0, getvS, truR_bl, asI_i, asB_b, asS_s, asT_t, optI_0, optI_1, opt_some, ixR_tup, ixR_lst, ixR_set, ixR_str, asQ_tup, asQ_lst, asQ_set, asL_lst, asL_set, asC_set, lenR_tup, lenR_lst, lenR_str, lenR_set, atI0, atI1, atI2, ixN0, ixN2, lv_lst, lv_set, seq_lst, seq_tup, seq_str, bop_ai, bop_as, bop_al, bop_si, bop_mi, bop_ms, bop_mb, bop_mo, bop_fd, bop_pw, cmp_lti, cmp_lei, cmp_gti, cmp_gei, cmp_eqi, cmp_nei, cmp_eqs, cmp_nes, cmp_isin, cmp_nin, in_sign, in_tup, bm_app, bm_pop, bm_clear, bm_join, bm_split, bm_ends, bmT_app, bmT_pop, bmT_clear, bmT_join, bmT_split, bmT_ends, newL_f, newL_t, DL.bi_len, DL.bi_all, DL.bi_any, DL.bi_abs, DL.bi_max, DL.bi_min, DL.bi_inti, DL.bi_intb, DL.bi_str, DL.bi_repr, DL.bi_sorted, DL.bi_list, tr_non, tr_bl, tr_int, tr_str, tr_tup, tr_lst, DL.sl_str, DL.sl_lst, En.set_set, if_true, if_false, ite_true, ite_false, Bool.false_eq_true, Nat.zero_lt_succ, true_and, decide_true, decide_false, Bool.not_true, Bool.not_false, List.length_map, asBls_one, all_one]
  have e2 : (((0 + 1 + 1 : Nat) : Int) == 2) = true := rfl
  rw [e2]
  simp only [if_true]
  refine name_spec hy ?_
  simp only [wSs, wS, wE, wA, wT, wB, wI, wG, wGs, tgsL, wipeD, startD, List.map_cons, List.map_nil, List.length_cons, List.length_nil, List.replicate, List.cons_append, List.nil_append, List.append_nil, List.set_cons_zero, List.set_cons_succ, List.set_nil, getv0, getvS, truR_bl, asI_i, asB_b, asS_s, asT_t, optI_0, optI_1, opt_some, ixR_tup, ixR_lst, ixR_set, ixR_str, asQ_tup, asQ_lst, asQ_set, asL_lst, asL_set, asC_set, lenR_tup, lenR_lst, lenR_str, lenR_set, atI0, atI1, atI2, ixN0, ixN2, lv_lst, lv_set, seq_lst, seq_tup, seq_str, bop_ai, bop_as, bop_al, bop_si, bop_mi, bop_ms, bop_mb, bop_mo, bop_fd, bop_pw, cmp_lti, cmp_lei, cmp_gti, cmp_gei, cmp_eqi, cmp_nei, cmp_eqs, cmp_nes, cmp_isin, cmp_nin, in_sign, in_tup, bm_app, bm_pop, bm_clear, bm_join, bm_split, bm_ends, bmT_app, bmT_pop, bmT_clear, bmT_join, bmT_split, bmT_ends, newL_f, newL_t, DL.bi_len, DL.bi_all, DL.bi_any, DL.bi_abs, DL.bi_max, DL.bi_min, DL.bi_inti, DL.bi_intb, DL.bi_str, DL.bi_repr, DL.bi_sorted, DL.bi_list, tr_non, tr_bl, tr_int, tr_str, tr_tup, tr_lst, DL.sl_str, DL.sl_lst, En.set_set, if_true, if_false, ite_true, ite_false, Bool.false_eq_true, Nat.zero_lt_succ, true_and, decide_true, decide_false, Bool.not_true, Bool.not_false, List.length_map, asBls_one, all_one]
  exact ex_le h
theorem count_spec {k : Nat} {E : En} {n : Nat} {q : QE} {x : Nat → En → Prop} (h : q (.bl true) E) : CL (k + 1) i_is_count [.int n] E q x := by
  refine wC_go (fn := ⟨1, 1, b0⟩) rfl rfl ?_
  simp only [b0]
  simp only [wSs, wS, wE, wA, wT, wB, wI, wG, wGs, tgsL, wipeD, startD, List.map_cons, List.map_nil, List.length_cons, List.length_nil, List.replicate, List.cons_append, List.nil_append, List.append_nil, List.set_cons_zero, List.set_cons_succ, List.set_nil, getv0, getvS, truR_bl, asI_i, asB_b, asS_s, asT_t, optI_0, optI_1, opt_some, ixR_tup, ixR_lst, ixR_set, ixR_str, asQ_tup, asQ_lst, asQ_set, asL_lst, asL_set, asC_set, lenR_tup, lenR_lst, lenR_str, lenR_set, atI0, atI1, atI2, ixN0, ixN2, lv_lst, lv_set, seq_lst, seq_tup, seq_str, bop_ai, bop_as, bop_al, bop_si, bop_mi, bop_ms, bop_mb, bop_mo, bop_fd, bop_pw, cmp_lti, cmp_lei, cmp_gti, cmp_gei, cmp_eqi, cmp_nei, cmp_eqs, cmp_nes, cmp_isin, cmp_nin, in_sign, in_tup, bm_app, bm_pop, bm_clear, bm_join, bm_split, bm_ends, bmT_app, bmT_pop, bmT_clear, bmT_join, bmT_split, bmT_ends, newL_f, newL_t, DL.bi_len, DL.bi_all, DL.bi_any, DL.bi_abs, DL.bi_max, DL.bi_min, DL.bi_inti, DL.bi_intb, DL.bi_str, DL.bi_repr, DL.bi_sorted, DL.bi_list, tr_non, tr_bl, tr_int, tr_str, tr_tup, tr_lst, DL.sl_str, DL.sl_lst, En.set_set, if_true, if_false, ite_true, ite_false, Bool.false_eq_true, Nat.zero_lt_succ, true_and, decide_true, decide_false, Bool.not_true, Bool.not_false, List.length_map, asBls_one, all_one]
  rw [decide_eq_true (show (0 : Int) ≤ (n : Int) by omega)]
  exact ex_le h
theorem eqF_str {a b : List Nat} : eqF (.str a) (.str b) = (a == b) := rfl
theorem ddp_nodup {α : Type} [DecidableEq α] {l : List α} (h : l.Nodup) : ddp l = l := by
  have key : ∀ (l acc : List α), (acc ++ l).Nodup → l.foldl ddS acc = acc ++ l := by
    intro l
    induction l with
    | nil => intro acc _; simp
    | cons x l ih =>
      intro acc hn
      rw [List.foldl_cons]
      have hx : x ∉ acc := by
        intro hm
        have := List.nodup_append.mp hn
        exact this.2.2 x hm x List.mem_cons_self rfl
      have : ddS acc x = acc ++ [x] := by unfold ddS; rw [if_neg hx]
      rw [this, ih _ (by simpa using hn)]
      simp
  simpa [ddp] using key l [] (by simpa using h)
theorem any_in {x : List Nat} {ys : List (List Nat)} (h : x ∈ ys) : ((ys.map D.str).any fun z => eqF z (.str x)) = true := by
  rw [List.any_map, List.any_eq_true]
  exact ⟨x, h, by show (x == x) = true; exact beq_self_eq_true x⟩
theorem flat_strs (ys : List (List Nat)) : (ys.map D.str).all flat = true := by
  rw [List.all_map, List.all_eq_true]
  intro _ _
  rfl
theorem order_ok {k : Nat} {E : En} {o : D} {od gs : List (List Nat)} {q : QE} {x : Nat → En → Prop} (ho : lv E o = some (od.map .str)) (hl : od.length ≤ 100) (hl2 : gs.length ≤ 1000) (hn : od.Nodup) (hs : ∀ y ∈ od, y ∈ gs) (hg : ∀ y ∈ gs, goodB y = true) (h : q (.bl true) E) :
    CL (k + 2) i_is_order [o, .lst (gs.map .str)] E q x := by
  refine wC_go (fn := ⟨2, 3, b3⟩) rfl rfl ?_
  simp only [b3]
  simp only [wSs, wS, wE, wA, wT, wB, wI, wG, wGs, tgsL, wipeD, startD, List.map_cons, List.map_nil, List.length_cons, List.length_nil, List.replicate, List.cons_append, List.nil_append, List.append_nil, List.set_cons_zero, List.set_cons_succ, List.set_nil, getv0, getvS, truR_bl, asI_i, asB_b, asS_s, asT_t, optI_0, optI_1, opt_some, ixR_tup, ixR_lst, ixR_set, ixR_str, asQ_tup, asQ_lst, asQ_set, asL_lst, asL_set, asC_set, lenR_tup, lenR_lst, lenR_str, lenR_set, atI0, atI1, atI2, ixN0, ixN2, lv_lst, lv_set, seq_lst, seq_tup, seq_str, bop_ai, bop_as, bop_al, bop_si, bop_mi, bop_ms, bop_mb, bop_mo, bop_fd, bop_pw, cmp_lti, cmp_lei, cmp_gti, cmp_gei, cmp_eqi, cmp_nei, cmp_eqs, cmp_nes, cmp_isin, cmp_nin, in_sign, in_tup, bm_app, bm_pop, bm_clear, bm_join, bm_split, bm_ends, bmT_app, bmT_pop, bmT_clear, bmT_join, bmT_split, bmT_ends, newL_f, newL_t, DL.bi_len, DL.bi_all, DL.bi_any, DL.bi_abs, DL.bi_max, DL.bi_min, DL.bi_inti, DL.bi_intb, DL.bi_str, DL.bi_repr, DL.bi_sorted, DL.bi_list, tr_non, tr_bl, tr_int, tr_str, tr_tup, tr_lst, DL.sl_str, DL.sl_lst, En.set_set, if_true, if_false, ite_true, ite_false, Bool.false_eq_true, Nat.zero_lt_succ, true_and, decide_true, decide_false, Bool.not_true, Bool.not_false, List.length_map, asBls_one, all_one, ty_lv ho, asL_lv ho, lenR_lv ho]
  refine seq_lv ho fun G hG => ⟨by (try simp only [List.length_map]); omega, ?_⟩
  refine wLc_map (fun _ => .bl true) hG _ _ (fun d hd q1 q2 h1 => ?_) ?_
  · obtain ⟨c, hc, rfl⟩ := List.mem_map.mp hd
    refine ⟨(by (try simp only [List.length_cons, List.length_nil]); omega), ?_⟩
    dsimp only
    rw [if_pos rfl]
    simp only [c3_0]
    simp only [wSs, wS, wE, wA, wT, wB, wI, wG, wGs, tgsL, wipeD, startD, List.map_cons, List.map_nil, List.length_cons, List.length_nil, List.replicate, List.cons_append, List.nil_append, List.append_nil, List.set_cons_zero, List.set_cons_succ, List.set_nil, getv0, getvS, truR_bl, asI_i, asB_b, asS_s, asT_t, optI_0, optI_1, opt_some, ixR_tup, ixR_lst, ixR_set, ixR_str, asQ_tup, asQ_lst, asQ_set, asL_lst, asL_set, asC_set, lenR_tup, lenR_lst, lenR_str, lenR_set, atI0, atI1, atI2, ixN0, ixN2, lv_lst, lv_set, seq_lst, seq_tup, seq_str, bop_ai, bop_as, bop_al, bop_si, bop_mi, bop_ms, bop_mb, bop_mo, bop_fd, bop_pw, cmp_lti, cmp_lei, cmp_gti, cmp_gei, cmp_eqi, cmp_nei, cmp_eqs, cmp_nes, cmp_isin, cmp_nin, in_sign, in_tup, bm_app, bm_pop, bm_clear, bm_join, bm_split, bm_ends, bmT_app, bmT_pop, bmT_clear, bmT_join, bmT_split, bmT_ends, newL_f, newL_t, DL.bi_len, DL.bi_all, DL.bi_any, DL.bi_abs, DL.bi_max, DL.bi_min, DL.bi_inti, DL.bi_intb, DL.bi_str, DL.bi_repr, DL.bi_sorted, DL.bi_list, tr_non, tr_bl, tr_int, tr_str, tr_tup, tr_lst, DL.sl_str, DL.sl_lst, En.set_set, if_true, if_false, ite_true, ite_false, Bool.false_eq_true, Nat.zero_lt_succ, true_and, decide_true, decide_false, Bool.not_true, Bool.not_false, List.length_map, asBls_one, all_one]
    exact name_spec (hg c (hs c hc)) h1
  · simp only [wSs, wS, wE, wA, wT, wB, wI, wG, wGs, tgsL, wipeD, startD, List.map_cons, List.map_nil, List.length_cons, List.length_nil, List.replicate, List.cons_append, List.nil_append, List.append_nil, List.set_cons_zero, List.set_cons_succ, List.set_nil, getv0, getvS, truR_bl, asI_i, asB_b, asS_s, asT_t, optI_0, optI_1, opt_some, ixR_tup, ixR_lst, ixR_set, ixR_str, asQ_tup, asQ_lst, asQ_set, asL_lst, asL_set, asC_set, lenR_tup, lenR_lst, lenR_str, lenR_set, atI0, atI1, atI2, ixN0, ixN2, lv_lst, lv_set, seq_lst, seq_tup, seq_str, bop_ai, bop_as, bop_al, bop_si, bop_mi, bop_ms, bop_mb, bop_mo, bop_fd, bop_pw, cmp_lti, cmp_lei, cmp_gti, cmp_gei, cmp_eqi, cmp_nei, cmp_eqs, cmp_nes, cmp_isin, cmp_nin, in_sign, in_tup, bm_app, bm_pop, bm_clear, bm_join, bm_split, bm_ends, bmT_app, bmT_pop, bmT_clear, bmT_join, bmT_split, bmT_ends, newL_f, newL_t, DL.bi_len, DL.bi_all, DL.bi_any, DL.bi_abs, DL.bi_max, DL.bi_min, DL.bi_inti, DL.bi_intb, DL.bi_str, DL.bi_repr, DL.bi_sorted, DL.bi_list, tr_non, tr_bl, tr_int, tr_str, tr_tup, tr_lst, DL.sl_str, DL.sl_lst, En.set_set, if_true, if_false, ite_true, ite_false, Bool.false_eq_true, Nat.zero_lt_succ, true_and, decide_true, decide_false, Bool.not_true, Bool.not_false, List.length_map, asBls_one, all_one, asL_lv ho, lenR_lv ho]
    refine ⟨by omega, ?_⟩
    rw [asStrs_map, opt_some, ddp_nodup hn]
    refine ⟨by omega, ?_⟩
    rw [show ((od.length : Int) == (od.length : Int)) = true from beq_self_eq_true _]
    simp only [if_true]
    refine seq_lv ho fun G hG => ⟨by (try simp only [List.length_map]); omega, ?_⟩
    refine wLc_map (fun _ => .bl true) hG _ _ (fun d hd q1 q2 h1 => ?_) ?_
    · obtain ⟨c, hc, rfl⟩ := List.mem_map.mp hd
      refine ⟨(by (try simp only [List.length_cons, List.length_nil]); omega), ?_⟩
      dsimp only
      rw [if_pos rfl]
      simp only [c3_1]
      simp only [wSs, wS, wE, wA, wT, wB, wI, wG, wGs, tgsL, wipeD, startD, List.map_cons, List.map_nil, List.length_cons, List.length_nil, List.replicate, List.cons_append, List.nil_append, List.append_nil, List.set_cons_zero, List.set_cons_succ, List.set_nil, getv0, getvS, truR_bl, asI_i, asB_b, asS_s, asT_t, optI_0, optI_1, opt_some, ixR_tup, ixR_lst, ixR_set, ixR_str, asQ_tup, asQ_lst, asQ_set, asL_lst, asL_set, asC_set, lenR_tup, lenR_lst, lenR_str, lenR_set, atI0, atI1, atI2, ixN0, ixN2, lv_lst, lv_set, seq_lst, seq_tup, seq_str, bop_ai, bop_as, bop_al, bop_si, bop_mi, bop_ms, bop_mb, bop_mo, bop_fd, bop_pw, cmp_lti, cmp_lei, cmp_gti, cmp_gei, cmp_eqi, cmp_nei, cmp_eqs, cmp_nes, cmp_isin, cmp_nin, in_sign, in_tup, bm_app, bm_pop, bm_clear, bm_join, bm_split, bm_ends, bmT_app, bmT_pop, bmT_clear, bmT_join, bmT_split, bmT_ends, newL_f, newL_t, DL.bi_len, DL.bi_all, DL.bi_any, DL.bi_abs, DL.bi_max, DL.bi_min, DL.bi_inti, DL.bi_intb, DL.bi_str, DL.bi_repr, DL.bi_sorted, DL.bi_list, tr_non, tr_bl, tr_int, tr_str, tr_tup, tr_lst, DL.sl_str, DL.sl_lst, En.set_set, if_true, if_false, ite_true, ite_false, Bool.false_eq_true, Nat.zero_lt_succ, true_and, decide_true, decide_false, Bool.not_true, Bool.not_false, List.length_map, asBls_one, all_one]
      rw [in_lv (lv_lst) rfl (flat_strs gs), any_in (hs c hc)]
      exact h1
    · simp only [wSs, wS, wE, wA, wT, wB, wI, wG, wGs, tgsL, wipeD, startD, List.map_cons, List.map_nil, List.length_cons, List.length_nil, List.replicate, List.cons_append, List.nil_append, List.append_nil, List.set_cons_zero, List.set_cons_succ, List.set_nil, getv0, getvS, truR_bl, asI_i, asB_b, asS_s, asT_t, optI_0, optI_1, opt_some, ixR_tup, ixR_lst, ixR_set, ixR_str, asQ_tup, asQ_lst, asQ_set, asL_lst, asL_set, asC_set, lenR_tup, lenR_lst, lenR_str, lenR_set, atI0, atI1, atI2, ixN0, ixN2, lv_lst, lv_set, seq_lst, seq_tup, seq_str, bop_ai, bop_as, bop_al, bop_si, bop_mi, bop_ms, bop_mb, bop_mo, bop_fd, bop_pw, cmp_lti, cmp_lei, cmp_gti, cmp_gei, cmp_eqi, cmp_nei, cmp_eqs, cmp_nes, cmp_isin, cmp_nin, in_sign, in_tup, bm_app, bm_pop, bm_clear, bm_join, bm_split, bm_ends, bmT_app, bmT_pop, bmT_clear, bmT_join, bmT_split, bmT_ends, newL_f, newL_t, DL.bi_len, DL.bi_all, DL.bi_any, DL.bi_abs, DL.bi_max, DL.bi_min, DL.bi_inti, DL.bi_intb, DL.bi_str, DL.bi_repr, DL.bi_sorted, DL.bi_list, tr_non, tr_bl, tr_int, tr_str, tr_tup, tr_lst, DL.sl_str, DL.sl_lst, En.set_set, if_true, if_false, ite_true, ite_false, Bool.false_eq_true, Nat.zero_lt_succ, true_and, decide_true, decide_false, Bool.not_true, Bool.not_false, List.length_map, asBls_one, all_one]
      exact ⟨by omega, ex_le h⟩
def hO (z : House × D) : D := .tup [.str z.1.nm, .int z.1.rm, z.2]
theorem house_ok {k : Nat} {E : En} {z : House × D} {gs : List (List Nat)} {q : QE} {x : Nat → En → Prop} (hg : goodB z.1.nm = true) (ho : lv E z.2 = some (z.1.od.map .str)) (hl : z.1.od.length ≤ 100) (hl2 : gs.length ≤ 1000) (hn : z.1.od.Nodup) (hs : ∀ y ∈ z.1.od, y ∈ gs)
    (hgs : ∀ y ∈ gs, goodB y = true) (h : q (.bl true) E) : CL (k + 3) i_is_house_row [hO z, .lst (gs.map .str)] E q x := by
  refine wC_go (fn := ⟨2, 2, b4⟩) rfl rfl ?_
  simp only [b4]
  unfold hO
  simp only [wSs, wS, wE, wA, wT, wB, wI, wG, wGs, tgsL, wipeD, startD, List.map_cons, List.map_nil, List.length_cons, List.length_nil, List.replicate, List.cons_append, List.nil_append, List.append_nil, List.set_cons_zero, List.set_cons_succ, List.set_nil, getv0, getvS, truR_bl, asI_i, asB_b, asS_s, asT_t, optI_0, optI_1, opt_some, ixR_tup, ixR_lst, ixR_set, ixR_str, asQ_tup, asQ_lst, asQ_set, asL_lst, asL_set, asC_set, lenR_tup, lenR_lst, lenR_str, lenR_set, atI0, atI1, atI2, ixN0, ixN2, lv_lst, lv_set, seq_lst, seq_tup, seq_str, bop_ai, bop_as, bop_al, bop_si, bop_mi, bop_ms, bop_mb, bop_mo, bop_fd, bop_pw, cmp_lti, cmp_lei, cmp_gti, cmp_gei, cmp_eqi, cmp_nei, cmp_eqs, cmp_nes, cmp_isin, cmp_nin, in_sign, in_tup, bm_app, bm_pop, bm_clear, bm_join, bm_split, bm_ends, bmT_app, bmT_pop, bmT_clear, bmT_join, bmT_split, bmT_ends, newL_f, newL_t, DL.bi_len, DL.bi_all, DL.bi_any, DL.bi_abs, DL.bi_max, DL.bi_min, DL.bi_inti, DL.bi_intb, DL.bi_str, DL.bi_repr, DL.bi_sorted, DL.bi_list, tr_non, tr_bl, tr_int, tr_str, tr_tup, tr_lst, DL.sl_str, DL.sl_lst, En.set_set, if_true, if_false, ite_true, ite_false, Bool.false_eq_true, Nat.zero_lt_succ, true_and, decide_true, decide_false, Bool.not_true, Bool.not_false, List.length_map, asBls_one, all_one]
  have e2 : (((0 + 1 + 1 + 1 : Nat) : Int) == 3) = true := rfl
  rw [e2]
  simp only [wSs, wS, wE, wA, wT, wB, wI, wG, wGs, tgsL, wipeD, startD, List.map_cons, List.map_nil, List.length_cons, List.length_nil, List.replicate, List.cons_append, List.nil_append, List.append_nil, List.set_cons_zero, List.set_cons_succ, List.set_nil, getv0, getvS, truR_bl, asI_i, asB_b, asS_s, asT_t, optI_0, optI_1, opt_some, ixR_tup, ixR_lst, ixR_set, ixR_str, asQ_tup, asQ_lst, asQ_set, asL_lst, asL_set, asC_set, lenR_tup, lenR_lst, lenR_str, lenR_set, atI0, atI1, atI2, ixN0, ixN2, lv_lst, lv_set, seq_lst, seq_tup, seq_str, bop_ai, bop_as, bop_al, bop_si, bop_mi, bop_ms, bop_mb, bop_mo, bop_fd, bop_pw, cmp_lti, cmp_lei, cmp_gti, cmp_gei, cmp_eqi, cmp_nei, cmp_eqs, cmp_nes, cmp_isin, cmp_nin, in_sign, in_tup, bm_app, bm_pop, bm_clear, bm_join, bm_split, bm_ends, bmT_app, bmT_pop, bmT_clear, bmT_join, bmT_split, bmT_ends, newL_f, newL_t, DL.bi_len, DL.bi_all, DL.bi_any, DL.bi_abs, DL.bi_max, DL.bi_min, DL.bi_inti, DL.bi_intb, DL.bi_str, DL.bi_repr, DL.bi_sorted, DL.bi_list, tr_non, tr_bl, tr_int, tr_str, tr_tup, tr_lst, DL.sl_str, DL.sl_lst, En.set_set, if_true, if_false, ite_true, ite_false, Bool.false_eq_true, Nat.zero_lt_succ, true_and, decide_true, decide_false, Bool.not_true, Bool.not_false, List.length_map, asBls_one, all_one]
  refine name_spec hg ?_
  simp only [wSs, wS, wE, wA, wT, wB, wI, wG, wGs, tgsL, wipeD, startD, List.map_cons, List.map_nil, List.length_cons, List.length_nil, List.replicate, List.cons_append, List.nil_append, List.append_nil, List.set_cons_zero, List.set_cons_succ, List.set_nil, getv0, getvS, truR_bl, asI_i, asB_b, asS_s, asT_t, optI_0, optI_1, opt_some, ixR_tup, ixR_lst, ixR_set, ixR_str, asQ_tup, asQ_lst, asQ_set, asL_lst, asL_set, asC_set, lenR_tup, lenR_lst, lenR_str, lenR_set, atI0, atI1, atI2, ixN0, ixN2, lv_lst, lv_set, seq_lst, seq_tup, seq_str, bop_ai, bop_as, bop_al, bop_si, bop_mi, bop_ms, bop_mb, bop_mo, bop_fd, bop_pw, cmp_lti, cmp_lei, cmp_gti, cmp_gei, cmp_eqi, cmp_nei, cmp_eqs, cmp_nes, cmp_isin, cmp_nin, in_sign, in_tup, bm_app, bm_pop, bm_clear, bm_join, bm_split, bm_ends, bmT_app, bmT_pop, bmT_clear, bmT_join, bmT_split, bmT_ends, newL_f, newL_t, DL.bi_len, DL.bi_all, DL.bi_any, DL.bi_abs, DL.bi_max, DL.bi_min, DL.bi_inti, DL.bi_intb, DL.bi_str, DL.bi_repr, DL.bi_sorted, DL.bi_list, tr_non, tr_bl, tr_int, tr_str, tr_tup, tr_lst, DL.sl_str, DL.sl_lst, En.set_set, if_true, if_false, ite_true, ite_false, Bool.false_eq_true, Nat.zero_lt_succ, true_and, decide_true, decide_false, Bool.not_true, Bool.not_false, List.length_map, asBls_one, all_one]
  refine count_spec ?_
  simp only [wSs, wS, wE, wA, wT, wB, wI, wG, wGs, tgsL, wipeD, startD, List.map_cons, List.map_nil, List.length_cons, List.length_nil, List.replicate, List.cons_append, List.nil_append, List.append_nil, List.set_cons_zero, List.set_cons_succ, List.set_nil, getv0, getvS, truR_bl, asI_i, asB_b, asS_s, asT_t, optI_0, optI_1, opt_some, ixR_tup, ixR_lst, ixR_set, ixR_str, asQ_tup, asQ_lst, asQ_set, asL_lst, asL_set, asC_set, lenR_tup, lenR_lst, lenR_str, lenR_set, atI0, atI1, atI2, ixN0, ixN2, lv_lst, lv_set, seq_lst, seq_tup, seq_str, bop_ai, bop_as, bop_al, bop_si, bop_mi, bop_ms, bop_mb, bop_mo, bop_fd, bop_pw, cmp_lti, cmp_lei, cmp_gti, cmp_gei, cmp_eqi, cmp_nei, cmp_eqs, cmp_nes, cmp_isin, cmp_nin, in_sign, in_tup, bm_app, bm_pop, bm_clear, bm_join, bm_split, bm_ends, bmT_app, bmT_pop, bmT_clear, bmT_join, bmT_split, bmT_ends, newL_f, newL_t, DL.bi_len, DL.bi_all, DL.bi_any, DL.bi_abs, DL.bi_max, DL.bi_min, DL.bi_inti, DL.bi_intb, DL.bi_str, DL.bi_repr, DL.bi_sorted, DL.bi_list, tr_non, tr_bl, tr_int, tr_str, tr_tup, tr_lst, DL.sl_str, DL.sl_lst, En.set_set, if_true, if_false, ite_true, ite_false, Bool.false_eq_true, Nat.zero_lt_succ, true_and, decide_true, decide_false, Bool.not_true, Bool.not_false, List.length_map, asBls_one, all_one]
  exact order_ok ho hl hl2 hn hs hgs (ex_le h)
/-- d shows that world -/
structure WD (E : En) (d : D) (zs : List (House × D)) (gs : List Guest) : Prop where
  ex : ∃ H G, d = .tup [H, G] ∧ lv E H = some (zs.map hO) ∧ lv E G = some (gs.map gD)
  od : ∀ z ∈ zs, lv E z.2 = some (z.1.od.map .str)
theorem od_len {hs : List House} {gs : List Guest} (w : WOk hs gs) : ∀ h ∈ hs, h.od.length ≤ 50 := fun h hh => by
  obtain ⟨a, b⟩ := w.od h hh
  have l := nodup_len a b
  rw [List.length_map] at l
  exact Nat.le_trans l w.gn
theorem world_ok {k : Nat} {E : En} {d : D} {zs : List (House × D)} {gs : List Guest} {q : QE} {x : Nat → En → Prop} (hw : WD E d zs gs) (w : WOk (zs.map (·.1)) gs) (h : q (.bl true) E) : CL (k + 4) i_is_world [d] E q x := by
  obtain ⟨⟨H, G, rfl, hH, hG⟩, hod⟩ := hw
  refine wC_go (fn := ⟨1, 8, b5⟩) rfl rfl ?_
  simp only [b5]
  simp only [wSs, wS, wE, wA, wT, wB, wI, wG, wGs, tgsL, wipeD, startD, List.map_cons, List.map_nil, List.length_cons, List.length_nil, List.replicate, List.cons_append, List.nil_append, List.append_nil, List.set_cons_zero, List.set_cons_succ, List.set_nil, getv0, getvS, truR_bl, asI_i, asB_b, asS_s, asT_t, optI_0, optI_1, opt_some, ixR_tup, ixR_lst, ixR_set, ixR_str, asQ_tup, asQ_lst, asQ_set, asL_lst, asL_set, asC_set, lenR_tup, lenR_lst, lenR_str, lenR_set, atI0, atI1, atI2, ixN0, ixN2, lv_lst, lv_set, seq_lst, seq_tup, seq_str, bop_ai, bop_as, bop_al, bop_si, bop_mi, bop_ms, bop_mb, bop_mo, bop_fd, bop_pw, cmp_lti, cmp_lei, cmp_gti, cmp_gei, cmp_eqi, cmp_nei, cmp_eqs, cmp_nes, cmp_isin, cmp_nin, in_sign, in_tup, bm_app, bm_pop, bm_clear, bm_join, bm_split, bm_ends, bmT_app, bmT_pop, bmT_clear, bmT_join, bmT_split, bmT_ends, newL_f, newL_t, DL.bi_len, DL.bi_all, DL.bi_any, DL.bi_abs, DL.bi_max, DL.bi_min, DL.bi_inti, DL.bi_intb, DL.bi_str, DL.bi_repr, DL.bi_sorted, DL.bi_list, tr_non, tr_bl, tr_int, tr_str, tr_tup, tr_lst, DL.sl_str, DL.sl_lst, En.set_set, if_true, if_false, ite_true, ite_false, Bool.false_eq_true, Nat.zero_lt_succ, true_and, decide_true, decide_false, Bool.not_true, Bool.not_false, List.length_map, asBls_one, all_one]
  have e2 : (((0 + 1 + 1 : Nat) : Int) == 2) = true := rfl
  rw [e2]
  simp only [wSs, wS, wE, wA, wT, wB, wI, wG, wGs, tgsL, wipeD, startD, List.map_cons, List.map_nil, List.length_cons, List.length_nil, List.replicate, List.cons_append, List.nil_append, List.append_nil, List.set_cons_zero, List.set_cons_succ, List.set_nil, getv0, getvS, truR_bl, asI_i, asB_b, asS_s, asT_t, optI_0, optI_1, opt_some, ixR_tup, ixR_lst, ixR_set, ixR_str, asQ_tup, asQ_lst, asQ_set, asL_lst, asL_set, asC_set, lenR_tup, lenR_lst, lenR_str, lenR_set, atI0, atI1, atI2, ixN0, ixN2, lv_lst, lv_set, seq_lst, seq_tup, seq_str, bop_ai, bop_as, bop_al, bop_si, bop_mi, bop_ms, bop_mb, bop_mo, bop_fd, bop_pw, cmp_lti, cmp_lei, cmp_gti, cmp_gei, cmp_eqi, cmp_nei, cmp_eqs, cmp_nes, cmp_isin, cmp_nin, in_sign, in_tup, bm_app, bm_pop, bm_clear, bm_join, bm_split, bm_ends, bmT_app, bmT_pop, bmT_clear, bmT_join, bmT_split, bmT_ends, newL_f, newL_t, DL.bi_len, DL.bi_all, DL.bi_any, DL.bi_abs, DL.bi_max, DL.bi_min, DL.bi_inti, DL.bi_intb, DL.bi_str, DL.bi_repr, DL.bi_sorted, DL.bi_list, tr_non, tr_bl, tr_int, tr_str, tr_tup, tr_lst, DL.sl_str, DL.sl_lst, En.set_set, if_true, if_false, ite_true, ite_false, Bool.false_eq_true, Nat.zero_lt_succ, true_and, decide_true, decide_false, Bool.not_true, Bool.not_false, List.length_map, asBls_one, all_one]
  have hzl : zs.length ≤ 50 := by have := w.hn; rwa [List.length_map] at this
  have hgl := w.gn
  refine ⟨by omega, ?_⟩
  refine wLc_map (fun _ => .bl true) trivial _ _ (fun d hd q1 q2 h1 => ?_) ?_
  · have hd' : d = H ∨ d = G := by simpa using hd
    refine ⟨(by (try simp only [List.length_cons, List.length_nil]); omega), ?_⟩
    dsimp only
    rw [if_pos rfl]
    simp only [c5_0]
    rcases hd' with rfl | rfl
    · simp only [wSs, wS, wE, wA, wT, wB, wI, wG, wGs, tgsL, wipeD, startD, List.map_cons, List.map_nil, List.length_cons, List.length_nil, List.replicate, List.cons_append, List.nil_append, List.append_nil, List.set_cons_zero, List.set_cons_succ, List.set_nil, getv0, getvS, truR_bl, asI_i, asB_b, asS_s, asT_t, optI_0, optI_1, opt_some, ixR_tup, ixR_lst, ixR_set, ixR_str, asQ_tup, asQ_lst, asQ_set, asL_lst, asL_set, asC_set, lenR_tup, lenR_lst, lenR_str, lenR_set, atI0, atI1, atI2, ixN0, ixN2, lv_lst, lv_set, seq_lst, seq_tup, seq_str, bop_ai, bop_as, bop_al, bop_si, bop_mi, bop_ms, bop_mb, bop_mo, bop_fd, bop_pw, cmp_lti, cmp_lei, cmp_gti, cmp_gei, cmp_eqi, cmp_nei, cmp_eqs, cmp_nes, cmp_isin, cmp_nin, in_sign, in_tup, bm_app, bm_pop, bm_clear, bm_join, bm_split, bm_ends, bmT_app, bmT_pop, bmT_clear, bmT_join, bmT_split, bmT_ends, newL_f, newL_t, DL.bi_len, DL.bi_all, DL.bi_any, DL.bi_abs, DL.bi_max, DL.bi_min, DL.bi_inti, DL.bi_intb, DL.bi_str, DL.bi_repr, DL.bi_sorted, DL.bi_list, tr_non, tr_bl, tr_int, tr_str, tr_tup, tr_lst, DL.sl_str, DL.sl_lst, En.set_set, if_true, if_false, ite_true, ite_false, Bool.false_eq_true, Nat.zero_lt_succ, true_and, decide_true, decide_false, Bool.not_true, Bool.not_false, List.length_map, asBls_one, all_one, ty_lv hH]
      exact h1
    · simp only [wSs, wS, wE, wA, wT, wB, wI, wG, wGs, tgsL, wipeD, startD, List.map_cons, List.map_nil, List.length_cons, List.length_nil, List.replicate, List.cons_append, List.nil_append, List.append_nil, List.set_cons_zero, List.set_cons_succ, List.set_nil, getv0, getvS, truR_bl, asI_i, asB_b, asS_s, asT_t, optI_0, optI_1, opt_some, ixR_tup, ixR_lst, ixR_set, ixR_str, asQ_tup, asQ_lst, asQ_set, asL_lst, asL_set, asC_set, lenR_tup, lenR_lst, lenR_str, lenR_set, atI0, atI1, atI2, ixN0, ixN2, lv_lst, lv_set, seq_lst, seq_tup, seq_str, bop_ai, bop_as, bop_al, bop_si, bop_mi, bop_ms, bop_mb, bop_mo, bop_fd, bop_pw, cmp_lti, cmp_lei, cmp_gti, cmp_gei, cmp_eqi, cmp_nei, cmp_eqs, cmp_nes, cmp_isin, cmp_nin, in_sign, in_tup, bm_app, bm_pop, bm_clear, bm_join, bm_split, bm_ends, bmT_app, bmT_pop, bmT_clear, bmT_join, bmT_split, bmT_ends, newL_f, newL_t, DL.bi_len, DL.bi_all, DL.bi_any, DL.bi_abs, DL.bi_max, DL.bi_min, DL.bi_inti, DL.bi_intb, DL.bi_str, DL.bi_repr, DL.bi_sorted, DL.bi_list, tr_non, tr_bl, tr_int, tr_str, tr_tup, tr_lst, DL.sl_str, DL.sl_lst, En.set_set, if_true, if_false, ite_true, ite_false, Bool.false_eq_true, Nat.zero_lt_succ, true_and, decide_true, decide_false, Bool.not_true, Bool.not_false, List.length_map, asBls_one, all_one, ty_lv hG]
      exact h1
  simp only [wSs, wS, wE, wA, wT, wB, wI, wG, wGs, tgsL, wipeD, startD, List.map_cons, List.map_nil, List.length_cons, List.length_nil, List.replicate, List.cons_append, List.nil_append, List.append_nil, List.set_cons_zero, List.set_cons_succ, List.set_nil, getv0, getvS, truR_bl, asI_i, asB_b, asS_s, asT_t, optI_0, optI_1, opt_some, ixR_tup, ixR_lst, ixR_set, ixR_str, asQ_tup, asQ_lst, asQ_set, asL_lst, asL_set, asC_set, lenR_tup, lenR_lst, lenR_str, lenR_set, atI0, atI1, atI2, ixN0, ixN2, lv_lst, lv_set, seq_lst, seq_tup, seq_str, bop_ai, bop_as, bop_al, bop_si, bop_mi, bop_ms, bop_mb, bop_mo, bop_fd, bop_pw, cmp_lti, cmp_lei, cmp_gti, cmp_gei, cmp_eqi, cmp_nei, cmp_eqs, cmp_nes, cmp_isin, cmp_nin, in_sign, in_tup, bm_app, bm_pop, bm_clear, bm_join, bm_split, bm_ends, bmT_app, bmT_pop, bmT_clear, bmT_join, bmT_split, bmT_ends, newL_f, newL_t, DL.bi_len, DL.bi_all, DL.bi_any, DL.bi_abs, DL.bi_max, DL.bi_min, DL.bi_inti, DL.bi_intb, DL.bi_str, DL.bi_repr, DL.bi_sorted, DL.bi_list, tr_non, tr_bl, tr_int, tr_str, tr_tup, tr_lst, DL.sl_str, DL.sl_lst, En.set_set, if_true, if_false, ite_true, ite_false, Bool.false_eq_true, Nat.zero_lt_succ, true_and, decide_true, decide_false, Bool.not_true, Bool.not_false, List.length_map, asBls_one, all_one]
  have e3 : ([true, true].all id) = true := rfl
  simp only [asBls, Option.map_some, opt_some, e3]
  simp only [wSs, wS, wE, wA, wT, wB, wI, wG, wGs, tgsL, wipeD, startD, List.map_cons, List.map_nil, List.length_cons, List.length_nil, List.replicate, List.cons_append, List.nil_append, List.append_nil, List.set_cons_zero, List.set_cons_succ, List.set_nil, getv0, getvS, truR_bl, asI_i, asB_b, asS_s, asT_t, optI_0, optI_1, opt_some, ixR_tup, ixR_lst, ixR_set, ixR_str, asQ_tup, asQ_lst, asQ_set, asL_lst, asL_set, asC_set, lenR_tup, lenR_lst, lenR_str, lenR_set, atI0, atI1, atI2, ixN0, ixN2, lv_lst, lv_set, seq_lst, seq_tup, seq_str, bop_ai, bop_as, bop_al, bop_si, bop_mi, bop_ms, bop_mb, bop_mo, bop_fd, bop_pw, cmp_lti, cmp_lei, cmp_gti, cmp_gei, cmp_eqi, cmp_nei, cmp_eqs, cmp_nes, cmp_isin, cmp_nin, in_sign, in_tup, bm_app, bm_pop, bm_clear, bm_join, bm_split, bm_ends, bmT_app, bmT_pop, bmT_clear, bmT_join, bmT_split, bmT_ends, newL_f, newL_t, DL.bi_len, DL.bi_all, DL.bi_any, DL.bi_abs, DL.bi_max, DL.bi_min, DL.bi_inti, DL.bi_intb, DL.bi_str, DL.bi_repr, DL.bi_sorted, DL.bi_list, tr_non, tr_bl, tr_int, tr_str, tr_tup, tr_lst, DL.sl_str, DL.sl_lst, En.set_set, if_true, if_false, ite_true, ite_false, Bool.false_eq_true, Nat.zero_lt_succ, true_and, decide_true, decide_false, Bool.not_true, Bool.not_false, List.length_map, asBls_one, all_one]
  refine ⟨by omega, by omega, by omega, ?_⟩
  refine seq_lv hG fun G1 hG1 => ⟨by (try simp only [List.length_map]); omega, ?_⟩
  refine wLc_map (fun _ => .bl true) hG1 _ _ (fun d hd q1 q2 h1 => ?_) ?_
  · obtain ⟨g, hg, rfl⟩ := List.mem_map.mp hd
    refine ⟨(by (try simp only [List.length_cons, List.length_nil]); omega), ?_⟩
    dsimp only
    rw [if_pos rfl]
    simp only [c5_1]
    simp only [wSs, wS, wE, wA, wT, wB, wI, wG, wGs, tgsL, wipeD, startD, List.map_cons, List.map_nil, List.length_cons, List.length_nil, List.replicate, List.cons_append, List.nil_append, List.append_nil, List.set_cons_zero, List.set_cons_succ, List.set_nil, getv0, getvS, truR_bl, asI_i, asB_b, asS_s, asT_t, optI_0, optI_1, opt_some, ixR_tup, ixR_lst, ixR_set, ixR_str, asQ_tup, asQ_lst, asQ_set, asL_lst, asL_set, asC_set, lenR_tup, lenR_lst, lenR_str, lenR_set, atI0, atI1, atI2, ixN0, ixN2, lv_lst, lv_set, seq_lst, seq_tup, seq_str, bop_ai, bop_as, bop_al, bop_si, bop_mi, bop_ms, bop_mb, bop_mo, bop_fd, bop_pw, cmp_lti, cmp_lei, cmp_gti, cmp_gei, cmp_eqi, cmp_nei, cmp_eqs, cmp_nes, cmp_isin, cmp_nin, in_sign, in_tup, bm_app, bm_pop, bm_clear, bm_join, bm_split, bm_ends, bmT_app, bmT_pop, bmT_clear, bmT_join, bmT_split, bmT_ends, newL_f, newL_t, DL.bi_len, DL.bi_all, DL.bi_any, DL.bi_abs, DL.bi_max, DL.bi_min, DL.bi_inti, DL.bi_intb, DL.bi_str, DL.bi_repr, DL.bi_sorted, DL.bi_list, tr_non, tr_bl, tr_int, tr_str, tr_tup, tr_lst, DL.sl_str, DL.sl_lst, En.set_set, if_true, if_false, ite_true, ite_false, Bool.false_eq_true, Nat.zero_lt_succ, true_and, decide_true, decide_false, Bool.not_true, Bool.not_false, List.length_map, asBls_one, all_one]
    exact guest_spec (w.gg g hg) h1
  simp only [wSs, wS, wE, wA, wT, wB, wI, wG, wGs, tgsL, wipeD, startD, List.map_cons, List.map_nil, List.length_cons, List.length_nil, List.replicate, List.cons_append, List.nil_append, List.append_nil, List.set_cons_zero, List.set_cons_succ, List.set_nil, getv0, getvS, truR_bl, asI_i, asB_b, asS_s, asT_t, optI_0, optI_1, opt_some, ixR_tup, ixR_lst, ixR_set, ixR_str, asQ_tup, asQ_lst, asQ_set, asL_lst, asL_set, asC_set, lenR_tup, lenR_lst, lenR_str, lenR_set, atI0, atI1, atI2, ixN0, ixN2, lv_lst, lv_set, seq_lst, seq_tup, seq_str, bop_ai, bop_as, bop_al, bop_si, bop_mi, bop_ms, bop_mb, bop_mo, bop_fd, bop_pw, cmp_lti, cmp_lei, cmp_gti, cmp_gei, cmp_eqi, cmp_nei, cmp_eqs, cmp_nes, cmp_isin, cmp_nin, in_sign, in_tup, bm_app, bm_pop, bm_clear, bm_join, bm_split, bm_ends, bmT_app, bmT_pop, bmT_clear, bmT_join, bmT_split, bmT_ends, newL_f, newL_t, DL.bi_len, DL.bi_all, DL.bi_any, DL.bi_abs, DL.bi_max, DL.bi_min, DL.bi_inti, DL.bi_intb, DL.bi_str, DL.bi_repr, DL.bi_sorted, DL.bi_list, tr_non, tr_bl, tr_int, tr_str, tr_tup, tr_lst, DL.sl_str, DL.sl_lst, En.set_set, if_true, if_false, ite_true, ite_false, Bool.false_eq_true, Nat.zero_lt_succ, true_and, decide_true, decide_false, Bool.not_true, Bool.not_false, List.length_map, asBls_one, all_one]
  refine ⟨by omega, ?_⟩
  refine seq_lv hG fun G1 hG1 => ⟨by (try simp only [List.length_map]); omega, ?_⟩
  refine wLc_map (fun d => match d with | .tup (d :: _) => d | _ => .non) hG1 _ _ (fun d hd q1 q2 h1 => ?_) ?_
  · obtain ⟨g, hg, rfl⟩ := List.mem_map.mp hd
    unfold gD at h1 ⊢
    simp only [wSs, wS, wE, wA, wT, wB, wI, wG, wGs, tgsL, wipeD, startD, List.map_cons, List.map_nil, List.length_cons, List.length_nil, List.replicate, List.cons_append, List.nil_append, List.append_nil, List.set_cons_zero, List.set_cons_succ, List.set_nil, getv0, getvS, truR_bl, asI_i, asB_b, asS_s, asT_t, optI_0, optI_1, opt_some, ixR_tup, ixR_lst, ixR_set, ixR_str, asQ_tup, asQ_lst, asQ_set, asL_lst, asL_set, asC_set, lenR_tup, lenR_lst, lenR_str, lenR_set, atI0, atI1, atI2, ixN0, ixN2, lv_lst, lv_set, seq_lst, seq_tup, seq_str, bop_ai, bop_as, bop_al, bop_si, bop_mi, bop_ms, bop_mb, bop_mo, bop_fd, bop_pw, cmp_lti, cmp_lei, cmp_gti, cmp_gei, cmp_eqi, cmp_nei, cmp_eqs, cmp_nes, cmp_isin, cmp_nin, in_sign, in_tup, bm_app, bm_pop, bm_clear, bm_join, bm_split, bm_ends, bmT_app, bmT_pop, bmT_clear, bmT_join, bmT_split, bmT_ends, newL_f, newL_t, DL.bi_len, DL.bi_all, DL.bi_any, DL.bi_abs, DL.bi_max, DL.bi_min, DL.bi_inti, DL.bi_intb, DL.bi_str, DL.bi_repr, DL.bi_sorted, DL.bi_list, tr_non, tr_bl, tr_int, tr_str, tr_tup, tr_lst, DL.sl_str, DL.sl_lst, En.set_set, if_true, if_false, ite_true, ite_false, Bool.false_eq_true, Nat.zero_lt_succ, true_and, decide_true, decide_false, Bool.not_true, Bool.not_false, List.length_map, asBls_one, all_one]
    refine ⟨by omega, by omega, ?_⟩
    simp only [c5_2]
    simp only [wSs, wS, wE, wA, wT, wB, wI, wG, wGs, tgsL, wipeD, startD, List.map_cons, List.map_nil, List.length_cons, List.length_nil, List.replicate, List.cons_append, List.nil_append, List.append_nil, List.set_cons_zero, List.set_cons_succ, List.set_nil, getv0, getvS, truR_bl, asI_i, asB_b, asS_s, asT_t, optI_0, optI_1, opt_some, ixR_tup, ixR_lst, ixR_set, ixR_str, asQ_tup, asQ_lst, asQ_set, asL_lst, asL_set, asC_set, lenR_tup, lenR_lst, lenR_str, lenR_set, atI0, atI1, atI2, ixN0, ixN2, lv_lst, lv_set, seq_lst, seq_tup, seq_str, bop_ai, bop_as, bop_al, bop_si, bop_mi, bop_ms, bop_mb, bop_mo, bop_fd, bop_pw, cmp_lti, cmp_lei, cmp_gti, cmp_gei, cmp_eqi, cmp_nei, cmp_eqs, cmp_nes, cmp_isin, cmp_nin, in_sign, in_tup, bm_app, bm_pop, bm_clear, bm_join, bm_split, bm_ends, bmT_app, bmT_pop, bmT_clear, bmT_join, bmT_split, bmT_ends, newL_f, newL_t, DL.bi_len, DL.bi_all, DL.bi_any, DL.bi_abs, DL.bi_max, DL.bi_min, DL.bi_inti, DL.bi_intb, DL.bi_str, DL.bi_repr, DL.bi_sorted, DL.bi_list, tr_non, tr_bl, tr_int, tr_str, tr_tup, tr_lst, DL.sl_str, DL.sl_lst, En.set_set, if_true, if_false, ite_true, ite_false, Bool.false_eq_true, Nat.zero_lt_succ, true_and, decide_true, decide_false, Bool.not_true, Bool.not_false, List.length_map, asBls_one, all_one]
    exact h1
  have en : ((gs.map gD).map fun d => match d with | .tup (d :: _) => d | _ => D.non) = (gs.map Guest.nm).map D.str := by
    rw [List.map_map, List.map_map]
    rfl
  rw [en]
  simp only [wSs, wS, wE, wA, wT, wB, wI, wG, wGs, tgsL, wipeD, startD, List.map_cons, List.map_nil, List.length_cons, List.length_nil, List.replicate, List.cons_append, List.nil_append, List.append_nil, List.set_cons_zero, List.set_cons_succ, List.set_nil, getv0, getvS, truR_bl, asI_i, asB_b, asS_s, asT_t, optI_0, optI_1, opt_some, ixR_tup, ixR_lst, ixR_set, ixR_str, asQ_tup, asQ_lst, asQ_set, asL_lst, asL_set, asC_set, lenR_tup, lenR_lst, lenR_str, lenR_set, atI0, atI1, atI2, ixN0, ixN2, lv_lst, lv_set, seq_lst, seq_tup, seq_str, bop_ai, bop_as, bop_al, bop_si, bop_mi, bop_ms, bop_mb, bop_mo, bop_fd, bop_pw, cmp_lti, cmp_lei, cmp_gti, cmp_gei, cmp_eqi, cmp_nei, cmp_eqs, cmp_nes, cmp_isin, cmp_nin, in_sign, in_tup, bm_app, bm_pop, bm_clear, bm_join, bm_split, bm_ends, bmT_app, bmT_pop, bmT_clear, bmT_join, bmT_split, bmT_ends, newL_f, newL_t, DL.bi_len, DL.bi_all, DL.bi_any, DL.bi_abs, DL.bi_max, DL.bi_min, DL.bi_inti, DL.bi_intb, DL.bi_str, DL.bi_repr, DL.bi_sorted, DL.bi_list, tr_non, tr_bl, tr_int, tr_str, tr_tup, tr_lst, DL.sl_str, DL.sl_lst, En.set_set, if_true, if_false, ite_true, ite_false, Bool.false_eq_true, Nat.zero_lt_succ, true_and, decide_true, decide_false, Bool.not_true, Bool.not_false, List.length_map, asBls_one, all_one]
  refine ⟨by omega, by omega, ?_⟩
  refine seq_lv hH fun G1 hG1 => ⟨by (try simp only [List.length_map]); omega, ?_⟩
  have hgn : ∀ y ∈ gs.map Guest.nm, goodB y = true := fun y hy => by
    obtain ⟨g, hg, rfl⟩ := List.mem_map.mp hy
    exact w.gg g hg
  refine wLc_map (fun _ => .bl true) hG1 _ _ (fun d hd q1 q2 h1 => ?_) ?_
  · obtain ⟨z, hz, rfl⟩ := List.mem_map.mp hd
    refine ⟨(by (try simp only [List.length_cons, List.length_nil]); omega), ?_⟩
    dsimp only
    rw [if_pos rfl]
    simp only [c5_3]
    simp only [wSs, wS, wE, wA, wT, wB, wI, wG, wGs, tgsL, wipeD, startD, List.map_cons, List.map_nil, List.length_cons, List.length_nil, List.replicate, List.cons_append, List.nil_append, List.append_nil, List.set_cons_zero, List.set_cons_succ, List.set_nil, getv0, getvS, truR_bl, asI_i, asB_b, asS_s, asT_t, optI_0, optI_1, opt_some, ixR_tup, ixR_lst, ixR_set, ixR_str, asQ_tup, asQ_lst, asQ_set, asL_lst, asL_set, asC_set, lenR_tup, lenR_lst, lenR_str, lenR_set, atI0, atI1, atI2, ixN0, ixN2, lv_lst, lv_set, seq_lst, seq_tup, seq_str, bop_ai, bop_as, bop_al, bop_si, bop_mi, bop_ms, bop_mb, bop_mo, bop_fd, bop_pw, cmp_lti, cmp_lei, cmp_gti, cmp_gei, cmp_eqi, cmp_nei, cmp_eqs, cmp_nes, cmp_isin, cmp_nin, in_sign, in_tup, bm_app, bm_pop, bm_clear, bm_join, bm_split, bm_ends, bmT_app, bmT_pop, bmT_clear, bmT_join, bmT_split, bmT_ends, newL_f, newL_t, DL.bi_len, DL.bi_all, DL.bi_any, DL.bi_abs, DL.bi_max, DL.bi_min, DL.bi_inti, DL.bi_intb, DL.bi_str, DL.bi_repr, DL.bi_sorted, DL.bi_list, tr_non, tr_bl, tr_int, tr_str, tr_tup, tr_lst, DL.sl_str, DL.sl_lst, En.set_set, if_true, if_false, ite_true, ite_false, Bool.false_eq_true, Nat.zero_lt_succ, true_and, decide_true, decide_false, Bool.not_true, Bool.not_false, List.length_map, asBls_one, all_one]
    have hm : z.1 ∈ zs.map (·.1) := List.mem_map_of_mem hz
    have hl := od_len w _ hm
    exact house_ok (w.gh _ hm) (hod z hz) (by omega) (by (try simp only [List.length_map]); omega) (w.od _ hm).1 (w.od _ hm).2 hgn h1
  simp only [wSs, wS, wE, wA, wT, wB, wI, wG, wGs, tgsL, wipeD, startD, List.map_cons, List.map_nil, List.length_cons, List.length_nil, List.replicate, List.cons_append, List.nil_append, List.append_nil, List.set_cons_zero, List.set_cons_succ, List.set_nil, getv0, getvS, truR_bl, asI_i, asB_b, asS_s, asT_t, optI_0, optI_1, opt_some, ixR_tup, ixR_lst, ixR_set, ixR_str, asQ_tup, asQ_lst, asQ_set, asL_lst, asL_set, asC_set, lenR_tup, lenR_lst, lenR_str, lenR_set, atI0, atI1, atI2, ixN0, ixN2, lv_lst, lv_set, seq_lst, seq_tup, seq_str, bop_ai, bop_as, bop_al, bop_si, bop_mi, bop_ms, bop_mb, bop_mo, bop_fd, bop_pw, cmp_lti, cmp_lei, cmp_gti, cmp_gei, cmp_eqi, cmp_nei, cmp_eqs, cmp_nes, cmp_isin, cmp_nin, in_sign, in_tup, bm_app, bm_pop, bm_clear, bm_join, bm_split, bm_ends, bmT_app, bmT_pop, bmT_clear, bmT_join, bmT_split, bmT_ends, newL_f, newL_t, DL.bi_len, DL.bi_all, DL.bi_any, DL.bi_abs, DL.bi_max, DL.bi_min, DL.bi_inti, DL.bi_intb, DL.bi_str, DL.bi_repr, DL.bi_sorted, DL.bi_list, tr_non, tr_bl, tr_int, tr_str, tr_tup, tr_lst, DL.sl_str, DL.sl_lst, En.set_set, if_true, if_false, ite_true, ite_false, Bool.false_eq_true, Nat.zero_lt_succ, true_and, decide_true, decide_false, Bool.not_true, Bool.not_false, List.length_map, asBls_one, all_one]
  refine ⟨by omega, ?_⟩
  refine seq_lv hH fun G1 hG1 => ⟨by (try simp only [List.length_map]); omega, ?_⟩
  refine wLc_map (fun d => match d with | .tup (d :: _) => d | _ => .non) hG1 _ _ (fun d hd q1 q2 h1 => ?_) ?_
  · obtain ⟨z, hz, rfl⟩ := List.mem_map.mp hd
    refine ⟨(by (try simp only [List.length_cons, List.length_nil]); omega), ?_⟩
    dsimp only
    rw [if_pos rfl]
    simp only [c5_4]
    unfold hO at h1 ⊢
    simp only [wSs, wS, wE, wA, wT, wB, wI, wG, wGs, tgsL, wipeD, startD, List.map_cons, List.map_nil, List.length_cons, List.length_nil, List.replicate, List.cons_append, List.nil_append, List.append_nil, List.set_cons_zero, List.set_cons_succ, List.set_nil, getv0, getvS, truR_bl, asI_i, asB_b, asS_s, asT_t, optI_0, optI_1, opt_some, ixR_tup, ixR_lst, ixR_set, ixR_str, asQ_tup, asQ_lst, asQ_set, asL_lst, asL_set, asC_set, lenR_tup, lenR_lst, lenR_str, lenR_set, atI0, atI1, atI2, ixN0, ixN2, lv_lst, lv_set, seq_lst, seq_tup, seq_str, bop_ai, bop_as, bop_al, bop_si, bop_mi, bop_ms, bop_mb, bop_mo, bop_fd, bop_pw, cmp_lti, cmp_lei, cmp_gti, cmp_gei, cmp_eqi, cmp_nei, cmp_eqs, cmp_nes, cmp_isin, cmp_nin, in_sign, in_tup, bm_app, bm_pop, bm_clear, bm_join, bm_split, bm_ends, bmT_app, bmT_pop, bmT_clear, bmT_join, bmT_split, bmT_ends, newL_f, newL_t, DL.bi_len, DL.bi_all, DL.bi_any, DL.bi_abs, DL.bi_max, DL.bi_min, DL.bi_inti, DL.bi_intb, DL.bi_str, DL.bi_repr, DL.bi_sorted, DL.bi_list, tr_non, tr_bl, tr_int, tr_str, tr_tup, tr_lst, DL.sl_str, DL.sl_lst, En.set_set, if_true, if_false, ite_true, ite_false, Bool.false_eq_true, Nat.zero_lt_succ, true_and, decide_true, decide_false, Bool.not_true, Bool.not_false, List.length_map, asBls_one, all_one]
    exact h1
  have en2 : ((zs.map hO).map fun d => match d with | .tup (d :: _) => d | _ => D.non) = ((zs.map (·.1)).map House.nm).map D.str := by
    rw [List.map_map, List.map_map, List.map_map]
    rfl
  rw [en2]
  simp only [wSs, wS, wE, wA, wT, wB, wI, wG, wGs, tgsL, wipeD, startD, List.map_cons, List.map_nil, List.length_cons, List.length_nil, List.replicate, List.cons_append, List.nil_append, List.append_nil, List.set_cons_zero, List.set_cons_succ, List.set_nil, getv0, getvS, truR_bl, asI_i, asB_b, asS_s, asT_t, optI_0, optI_1, opt_some, ixR_tup, ixR_lst, ixR_set, ixR_str, asQ_tup, asQ_lst, asQ_set, asL_lst, asL_set, asC_set, lenR_tup, lenR_lst, lenR_str, lenR_set, atI0, atI1, atI2, ixN0, ixN2, lv_lst, lv_set, seq_lst, seq_tup, seq_str, bop_ai, bop_as, bop_al, bop_si, bop_mi, bop_ms, bop_mb, bop_mo, bop_fd, bop_pw, cmp_lti, cmp_lei, cmp_gti, cmp_gei, cmp_eqi, cmp_nei, cmp_eqs, cmp_nes, cmp_isin, cmp_nin, in_sign, in_tup, bm_app, bm_pop, bm_clear, bm_join, bm_split, bm_ends, bmT_app, bmT_pop, bmT_clear, bmT_join, bmT_split, bmT_ends, newL_f, newL_t, DL.bi_len, DL.bi_all, DL.bi_any, DL.bi_abs, DL.bi_max, DL.bi_min, DL.bi_inti, DL.bi_intb, DL.bi_str, DL.bi_repr, DL.bi_sorted, DL.bi_list, tr_non, tr_bl, tr_int, tr_str, tr_tup, tr_lst, DL.sl_str, DL.sl_lst, En.set_set, if_true, if_false, ite_true, ite_false, Bool.false_eq_true, Nat.zero_lt_succ, true_and, decide_true, decide_false, Bool.not_true, Bool.not_false, List.length_map, asBls_one, all_one]
  refine ⟨by omega, by rw [List.length_append]; simp only [List.length_map]; omega, by omega, ?_⟩
  rw [← List.map_append, asStrs_map, opt_some, ddp_nodup w.nd]
  refine ⟨by rw [List.length_append]; simp only [List.length_map]; omega, ?_⟩
  rw [List.length_map, show ∀ n : Nat, ((n : Int) == (n : Int)) = true from fun _ => beq_self_eq_true _]
  exact ex_le h
end KX

set_option Elab.async false
set_option linter.all false
set_option maxRecDepth 100000
set_option maxHeartbeats 4000000
namespace KX
open PySem L2 DL
theorem wLc_fml {tg : D → SD → En → (SD → En → Prop) → Prop} {cnd : SD → En → (Bool → En → Prop) → Prop} {elt : SD → En → QE → Prop} {G : En → Prop} {s : SD} {E : En} {α : Type} (g : α → D) (f : α → Option D) (hG : G E) :
    ∀ (l : List α) (q : List D → En → Prop), (∀ a ∈ l, ∀ (q1 : QE) (q2 : En → Prop), (∀ y, f a = some y → q1 y E) → (f a = none → q2 E) → tg (g a) s E fun s1 E1 => cnd s1 E1 fun b E2 => if b = true then elt s1 E2 q1 else q2 E2) →
    q (l.filterMap f) E → wLc tg cnd elt G s (l.map g) E q
  | [], q, _, h => ⟨hG, h⟩
  | d :: ds, q, hs, h => by
    refine ⟨hG, hs d List.mem_cons_self (fun y E3 => wLc tg cnd elt G s (ds.map g) E3 fun ys E4 => q (y :: ys) E4) (fun E2 => wLc tg cnd elt G s (ds.map g) E2 q) (fun y hy => ?_) (fun hn => ?_)⟩
    · refine wLc_fml g f hG ds _ (fun d hd => hs d (List.mem_cons_of_mem _ hd)) ?_
      rw [List.filterMap_cons, hy] at h
      exact h
    · refine wLc_fml g f hG ds _ (fun d hd => hs d (List.mem_cons_of_mem _ hd)) ?_
      rw [List.filterMap_cons, hn] at h
      exact h
theorem wLc_ml {tg : D → SD → En → (SD → En → Prop) → Prop} {cnd : SD → En → (Bool → En → Prop) → Prop} {elt : SD → En → QE → Prop} {G : En → Prop} {s : SD} {E : En} {α : Type} (g : α → D) (f : α → D) (hG : G E) (l : List α) (q : List D → En → Prop) (hs : ∀ a ∈ l, ∀ (q1 : QE) (q2 : En → Prop), q1 (f a) E → tg (g a) s E fun s1 E1 => cnd s1 E1 fun b E2 => if b = true then elt s1 E2 q1 else q2 E2)
    (h : q (l.map f) E) : wLc tg cnd elt G s (l.map g) E q :=
  wLc_fml g (fun d => some (f d)) hG l q (fun d hd q1 q2 h1 _ => hs d hd q1 q2 (h1 _ rfl)) (by rw [List.filterMap_eq_map']; exact h)
theorem joinL_fm (s : Nat) : ∀ (a : List Nat) (l : List (List Nat)), TL.joinL [s] (a :: l) = a ++ l.flatMap (s :: ·)
  | a, [] => by show a = _; simp
  | a, b :: l => by
    show a ++ ([s] ++ TL.joinL [s] (b :: l)) = _
    rw [joinL_fm s b l]
    simp
abbrev wHouse : List Nat := [104, 111, 117, 115, 101]
abbrev wGuest : List Nat := [103, 117, 101, 115, 116]
abbrev wWishes : List Nat := [119, 105, 115, 104, 101, 115]
def wordsH (h : House) : List (List Nat) := [wHouse, h.nm, TL.numL h.rm ++ [58]] ++ h.od
def wordsG (g : Guest) : List (List Nat) := [wGuest, g.nm] ++ (if g.ws = true then [wWishes] else [])
def rowH (h : House) : List Nat := TL.joinL [32] (wordsH h)
def rowG (g : Guest) : List Nat := TL.joinL [32] (wordsG g)
def rowsW (hs : List House) (gs : List Guest) : List (List Nat) := (srt House.nm hs).map rowH ++ (srt Guest.nm gs).map rowG
def textW (hs : List House) (gs : List Guest) : List Nat := TL.joinL [10] (rowsW hs gs)
theorem sum_le {m : Nat} : ∀ {l : List (List Nat)}, (∀ x ∈ l, x.length ≤ m) → (l.map List.length).sum ≤ l.length * m
  | [], _ => Nat.zero_le _
  | x :: l, h => by
    have h1 := h x List.mem_cons_self
    have h2 := sum_le (l := l) fun y hy => h y (List.mem_cons_of_mem _ hy)
    rw [List.map_cons, List.sum_cons, List.length_cons, Nat.add_mul]
    omega
theorem join_len (s : Nat) : ∀ (l : List (List Nat)), (TL.joinL [s] l).length ≤ (l.map List.length).sum + l.length
  | [] => Nat.zero_le _
  | a :: l => by
    rw [joinL_fm, List.length_append, List.map_cons, List.sum_cons, List.length_cons]
    have : (l.flatMap (s :: ·)).length = (l.map List.length).sum + l.length := by
      induction l with
      | nil => rfl
      | cons b l ih => rw [List.flatMap_cons, List.length_append, ih, List.map_cons, List.sum_cons, List.length_cons, List.length_cons]; omega
    omega
/-- a house that may be shown -/
structure HK (h : House) : Prop where
  nm : goodB h.nm = true
  rm : h.rm < 10 ^ 9
  od : ∀ y ∈ h.od, goodB y = true
  ol : h.od.length ≤ 50
theorem WOk.hk {hs : List House} {gs : List Guest} (w : WOk hs gs) : ∀ h ∈ hs, HK h := fun h hh => ⟨w.gh h hh, w.rm h hh, fun y hy => by
  obtain ⟨g, hg, rfl⟩ := List.mem_map.mp ((w.od h hh).2 y hy)
  exact w.gg g hg, od_len w h hh⟩
theorem good_len {x : List Nat} (h : goodB x = true) : x.length ≤ 8 := (goodB_iff h).2.1
theorem wordsH_len {h : House} (k : HK h) : ∀ x ∈ wordsH h, x.length ≤ 10 := by
  intro x hx
  unfold wordsH at hx
  rcases List.mem_append.mp hx with hx | hx
  · have hl := TL.numL_len (n := h.rm) (k := 9) (by decide) k.rm
    have hn := good_len k.nm
    rcases List.mem_cons.mp hx with rfl | hx
    · decide
    rcases List.mem_cons.mp hx with rfl | hx
    · omega
    rw [List.mem_singleton.mp hx, List.length_append, List.length_singleton]
    omega
  · have := good_len (k.od x hx)
    omega
theorem wordsG_len {g : Guest} (k : goodB g.nm = true) : ∀ x ∈ wordsG g, x.length ≤ 10 := by
  intro x hx
  unfold wordsG at hx
  have hn := good_len k
  rcases List.mem_append.mp hx with hx | hx
  · rcases List.mem_cons.mp hx with rfl | hx
    · decide
    rw [List.mem_singleton.mp hx]
    omega
  · split at hx
    · rw [List.mem_singleton.mp hx]; decide
    · cases hx
theorem wordsH_n {h : House} (k : HK h) : (wordsH h).length ≤ 53 := by
  unfold wordsH
  rw [List.length_append]
  have := k.ol
  simp only [List.length_cons, List.length_nil]
  omega
theorem wordsG_n {g : Guest} : (wordsG g).length ≤ 3 := by
  unfold wordsG
  split <;> simp
theorem rowH_len {h : House} (k : HK h) : (rowH h).length ≤ 600 := by
  have h1 := join_len 32 (wordsH h)
  have h2 := sum_le (wordsH_len k)
  have h3 := wordsH_n k
  unfold rowH
  omega
theorem rowG_len {g : Guest} (k : goodB g.nm = true) : (rowG g).length ≤ 600 := by
  have h1 := join_len 32 (wordsG g)
  have h2 := sum_le (wordsG_len k)
  have h3 := wordsG_n (g := g)
  unfold rowG
  omega
theorem rowsW_len {hs : List House} {gs : List Guest} (w : WOk hs gs) : ∀ x ∈ rowsW hs gs, x.length ≤ 600 := by
  intro x hx
  rcases List.mem_append.mp hx with hx | hx
  · obtain ⟨z, hz, rfl⟩ := List.mem_map.mp hx
    exact rowH_len (w.hk z (srt_mem.mp hz))
  · obtain ⟨z, hz, rfl⟩ := List.mem_map.mp hx
    exact rowG_len (w.gg z (srt_mem.mp hz))
theorem rowsW_n {hs : List House} {gs : List Guest} (w : WOk hs gs) : (rowsW hs gs).length ≤ 100 := by
  unfold rowsW
  rw [List.length_append, List.length_map, List.length_map, srt_len, srt_len]
  have := w.hn
  have := w.gn
  omega
theorem textW_len {hs : List House} {gs : List Guest} (w : WOk hs gs) : (textW hs gs).length ≤ 100000 := by
  have h1 := join_len 10 (rowsW hs gs)
  have h2 := sum_le (rowsW_len w)
  have h3 := rowsW_n w
  unfold textW
  omega
theorem dec_nat (n : Nat) : dec (n : Int) = TL.numL n := by
  have := TL.tl_num n
  rw [← this]
  exact (TL.tl_ofString _).symm
theorem need_spec {k : Nat} {E : En} {q : QE} {x : Nat → En → Prop} (h : q .non E) : CL (k + 1) i_need_text [.bl true] E q x := by
  refine wC_go (fn := ⟨1, 1, b6⟩) rfl rfl ?_
  simp only [b6]
  simp only [wSs, wS, wE, wA, wT, wB, wI, wG, wGs, tgsL, wipeD, startD, List.map_cons, List.map_nil, List.length_cons, List.length_nil, List.replicate, List.cons_append, List.nil_append, List.append_nil, List.set_cons_zero, List.set_cons_succ, List.set_nil, getv0, getvS, truR_bl, asI_i, asB_b, asS_s, asT_t, optI_0, optI_1, opt_some, ixR_tup, ixR_lst, ixR_set, ixR_str, asQ_tup, asQ_lst, asQ_set, asL_lst, asL_set, asC_set, lenR_tup, lenR_lst, lenR_str, lenR_set, atI0, atI1, atI2, ixN0, ixN2, lv_lst, lv_set, seq_lst, seq_tup, seq_str, bop_ai, bop_as, bop_al, bop_si, bop_mi, bop_ms, bop_mb, bop_mo, bop_fd, bop_pw, cmp_lti, cmp_lei, cmp_gti, cmp_gei, cmp_eqi, cmp_nei, cmp_eqs, cmp_nes, cmp_isin, cmp_nin, in_sign, in_tup, bm_app, bm_pop, bm_clear, bm_join, bm_split, bm_ends, bmT_app, bmT_pop, bmT_clear, bmT_join, bmT_split, bmT_ends, newL_f, newL_t, DL.bi_len, DL.bi_all, DL.bi_any, DL.bi_abs, DL.bi_max, DL.bi_min, DL.bi_inti, DL.bi_intb, DL.bi_str, DL.bi_repr, DL.bi_sorted, DL.bi_list, tr_non, tr_bl, tr_int, tr_str, tr_tup, tr_lst, DL.sl_str, DL.sl_lst, En.set_set, if_true, if_false, ite_true, ite_false, Bool.false_eq_true, Nat.zero_lt_succ, true_and, decide_true, decide_false, Bool.not_true, Bool.not_false, List.length_map, asBls_one, all_one]
  exact ex_le h
theorem g3 : pg.G 3 = some (.int 9) := rfl
theorem number_spec {k : Nat} {E : En} {n : Nat} {q : QE} {x : Nat → En → Prop} (hn : n < 10 ^ 9) (h : q (.str (TL.numL n)) E) : CL (k + 2) i_number_shown [.int n] E q x := by
  refine wC_go (fn := ⟨1, 2, b7⟩) rfl rfl ?_
  simp only [b7]
  simp only [wSs, wS, wE, wA, wT, wB, wI, wG, wGs, tgsL, wipeD, startD, List.map_cons, List.map_nil, List.length_cons, List.length_nil, List.replicate, List.cons_append, List.nil_append, List.append_nil, List.set_cons_zero, List.set_cons_succ, List.set_nil, getv0, getvS, truR_bl, asI_i, asB_b, asS_s, asT_t, optI_0, optI_1, opt_some, ixR_tup, ixR_lst, ixR_set, ixR_str, asQ_tup, asQ_lst, asQ_set, asL_lst, asL_set, asC_set, lenR_tup, lenR_lst, lenR_str, lenR_set, atI0, atI1, atI2, ixN0, ixN2, lv_lst, lv_set, seq_lst, seq_tup, seq_str, bop_ai, bop_as, bop_al, bop_si, bop_mi, bop_ms, bop_mb, bop_mo, bop_fd, bop_pw, cmp_lti, cmp_lei, cmp_gti, cmp_gei, cmp_eqi, cmp_nei, cmp_eqs, cmp_nes, cmp_isin, cmp_nin, in_sign, in_tup, bm_app, bm_pop, bm_clear, bm_join, bm_split, bm_ends, bmT_app, bmT_pop, bmT_clear, bmT_join, bmT_split, bmT_ends, newL_f, newL_t, DL.bi_len, DL.bi_all, DL.bi_any, DL.bi_abs, DL.bi_max, DL.bi_min, DL.bi_inti, DL.bi_intb, DL.bi_str, DL.bi_repr, DL.bi_sorted, DL.bi_list, tr_non, tr_bl, tr_int, tr_str, tr_tup, tr_lst, DL.sl_str, DL.sl_lst, En.set_set, if_true, if_false, ite_true, ite_false, Bool.false_eq_true, Nat.zero_lt_succ, true_and, decide_true, decide_false, Bool.not_true, Bool.not_false, List.length_map, asBls_one, all_one, g3]
  have hl := TL.numL_len (n := n) (k := 9) (by decide) hn
  rw [dec_nat]
  rw [decide_eq_true (show ((TL.numL n).length : Int) ≤ 9 by omega)]
  refine ⟨?_, by omega, by omega, need_spec ?_⟩
  · have := lg (x := (n : Int)) (k := 40) (by omega) (by omega) (by decide)
    omega
  · exact ex_le h
theorem g4 : pg.G 4 = some (.str wHouse) := rfl
theorem g5 : pg.G 5 = some (.str wGuest) := rfl
theorem g6 : pg.G 6 = some (.str wWishes) := rfl
theorem lv_fresh {E : En} {d : D} {xs : List D} {p : Addr} {c : Cell} (h : lv E d = some xs) (hp : E p = none) : lv (E.set p c) d = some xs := by
  cases d with
  | lst _ => exact h
  | ref a =>
    have hne : a ≠ p := fun z => by
      subst z
      unfold lv at h
      simp only [hp] at h
      cases h
    have e : E.set p c a = E a := En.set_ne _ _ hne
    unfold lv at h ⊢
    simp only [e]
    exact h
  | _ => cases h
theorem aug_l {E : En} {p : Addr} {xs ys : List D} {q : QE} (hp : E p = some (.lst xs)) : DL.augR .add E (.ref p) (.lst ys) q = (xs.length + ys.length ≤ 16777216 ∧ q (.ref p) (E.set p (.lst (xs ++ ys)))) := by
  have e : DL.augR .add E (.ref p) (.lst ys) q = asC E (.ref p) fun _ xs => asL E (.lst ys) fun ys => xs.length + ys.length ≤ 16777216 ∧ q (.ref p) (E.set p (.lst (xs ++ ys))) := rfl
  rw [e, asC_ref hp]
  rfl
theorem show_spec {k : Nat} {E : En} {d : D} {zs : List (House × D)} {gs : List Guest} {q : QE} {x : Nat → En → Prop} (hw : WD E d zs gs) (w : WOk (zs.map (·.1)) gs) (h : q (.str (textW (zs.map (·.1)) gs)) E) : CL (k + 5) i_show_world [d] E q x := by
  refine wC_go (fn := ⟨1, 8, b10⟩) rfl rfl ?_
  simp only [b10]
  simp only [wSs, wS, wE, wA, wT, wB, wI, wG, wGs, tgsL, wipeD, startD, List.map_cons, List.map_nil, List.length_cons, List.length_nil, List.replicate, List.cons_append, List.nil_append, List.append_nil, List.set_cons_zero, List.set_cons_succ, List.set_nil, getv0, getvS, truR_bl, asI_i, asB_b, asS_s, asT_t, optI_0, optI_1, opt_some, ixR_tup, ixR_lst, ixR_set, ixR_str, asQ_tup, asQ_lst, asQ_set, asL_lst, asL_set, asC_set, lenR_tup, lenR_lst, lenR_str, lenR_set, atI0, atI1, atI2, ixN0, ixN2, lv_lst, lv_set, seq_lst, seq_tup, seq_str, bop_ai, bop_as, bop_al, bop_si, bop_mi, bop_ms, bop_mb, bop_mo, bop_fd, bop_pw, cmp_lti, cmp_lei, cmp_gti, cmp_gei, cmp_eqi, cmp_nei, cmp_eqs, cmp_nes, cmp_isin, cmp_nin, in_sign, in_tup, bm_app, bm_pop, bm_clear, bm_join, bm_split, bm_ends, bmT_app, bmT_pop, bmT_clear, bmT_join, bmT_split, bmT_ends, newL_f, newL_t, DL.bi_len, DL.bi_all, DL.bi_any, DL.bi_abs, DL.bi_max, DL.bi_min, DL.bi_inti, DL.bi_intb, DL.bi_str, DL.bi_repr, DL.bi_sorted, DL.bi_list, tr_non, tr_bl, tr_int, tr_str, tr_tup, tr_lst, DL.sl_str, DL.sl_lst, En.set_set, if_true, if_false, ite_true, ite_false, Bool.false_eq_true, Nat.zero_lt_succ, true_and, decide_true, decide_false, Bool.not_true, Bool.not_false, List.length_map, asBls_one, all_one]
  refine world_ok hw w ?_
  obtain ⟨⟨H, G, rfl, hH, hG⟩, hod⟩ := hw
  refine need_spec ?_
  simp only [wSs, wS, wE, wA, wT, wB, wI, wG, wGs, tgsL, wipeD, startD, List.map_cons, List.map_nil, List.length_cons, List.length_nil, List.replicate, List.cons_append, List.nil_append, List.append_nil, List.set_cons_zero, List.set_cons_succ, List.set_nil, getv0, getvS, truR_bl, asI_i, asB_b, asS_s, asT_t, optI_0, optI_1, opt_some, ixR_tup, ixR_lst, ixR_set, ixR_str, asQ_tup, asQ_lst, asQ_set, asL_lst, asL_set, asC_set, lenR_tup, lenR_lst, lenR_str, lenR_set, atI0, atI1, atI2, ixN0, ixN2, lv_lst, lv_set, seq_lst, seq_tup, seq_str, bop_ai, bop_as, bop_al, bop_si, bop_mi, bop_ms, bop_mb, bop_mo, bop_fd, bop_pw, cmp_lti, cmp_lei, cmp_gti, cmp_gei, cmp_eqi, cmp_nei, cmp_eqs, cmp_nes, cmp_isin, cmp_nin, in_sign, in_tup, bm_app, bm_pop, bm_clear, bm_join, bm_split, bm_ends, bmT_app, bmT_pop, bmT_clear, bmT_join, bmT_split, bmT_ends, newL_f, newL_t, DL.bi_len, DL.bi_all, DL.bi_any, DL.bi_abs, DL.bi_max, DL.bi_min, DL.bi_inti, DL.bi_intb, DL.bi_str, DL.bi_repr, DL.bi_sorted, DL.bi_list, tr_non, tr_bl, tr_int, tr_str, tr_tup, tr_lst, DL.sl_str, DL.sl_lst, En.set_set, if_true, if_false, ite_true, ite_false, Bool.false_eq_true, Nat.zero_lt_succ, true_and, decide_true, decide_false, Bool.not_true, Bool.not_false, List.length_map, asBls_one, all_one]
  have hnd := List.nodup_append.mp w.nd
  have hzl : zs.length ≤ 50 := by have := w.hn; rwa [List.length_map] at this
  have hgl := w.gn
  refine ⟨(by (try simp only [List.length_cons, List.length_nil]); omega), (by (try simp only [List.length_cons, List.length_nil]); omega), ?_⟩
  rw [asL_lv hH]
  refine sort_tup hO (fun z => z.1.nm) (fun z => ⟨_, rfl⟩) zs (by rw [show (fun z : House × D => z.1.nm) = House.nm ∘ (·.1) from rfl, ← List.map_map]; exact hnd.2.1) (by omega) ?_
  simp only [wSs, wS, wE, wA, wT, wB, wI, wG, wGs, tgsL, wipeD, startD, List.map_cons, List.map_nil, List.length_cons, List.length_nil, List.replicate, List.cons_append, List.nil_append, List.append_nil, List.set_cons_zero, List.set_cons_succ, List.set_nil, getv0, getvS, truR_bl, asI_i, asB_b, asS_s, asT_t, optI_0, optI_1, opt_some, ixR_tup, ixR_lst, ixR_set, ixR_str, asQ_tup, asQ_lst, asQ_set, asL_lst, asL_set, asC_set, lenR_tup, lenR_lst, lenR_str, lenR_set, atI0, atI1, atI2, ixN0, ixN2, lv_lst, lv_set, seq_lst, seq_tup, seq_str, bop_ai, bop_as, bop_al, bop_si, bop_mi, bop_ms, bop_mb, bop_mo, bop_fd, bop_pw, cmp_lti, cmp_lei, cmp_gti, cmp_gei, cmp_eqi, cmp_nei, cmp_eqs, cmp_nes, cmp_isin, cmp_nin, in_sign, in_tup, bm_app, bm_pop, bm_clear, bm_join, bm_split, bm_ends, bmT_app, bmT_pop, bmT_clear, bmT_join, bmT_split, bmT_ends, newL_f, newL_t, DL.bi_len, DL.bi_all, DL.bi_any, DL.bi_abs, DL.bi_max, DL.bi_min, DL.bi_inti, DL.bi_intb, DL.bi_str, DL.bi_repr, DL.bi_sorted, DL.bi_list, tr_non, tr_bl, tr_int, tr_str, tr_tup, tr_lst, DL.sl_str, DL.sl_lst, En.set_set, if_true, if_false, ite_true, ite_false, Bool.false_eq_true, Nat.zero_lt_succ, true_and, decide_true, decide_false, Bool.not_true, Bool.not_false, List.length_map, asBls_one, all_one]
  rw [srt_len]
  refine ⟨by omega, by omega, ?_⟩
  refine wLc_ml hO (fun z => .str (rowH z.1)) trivial _ _ (fun z hz q1 q2 h1 => ?_) ?_
  · have hz' := srt_mem.mp hz
    have hk := w.hk _ (List.mem_map_of_mem (f := (·.1)) hz')
    unfold hO
    simp only [wSs, wS, wE, wA, wT, wB, wI, wG, wGs, tgsL, wipeD, startD, List.map_cons, List.map_nil, List.length_cons, List.length_nil, List.replicate, List.cons_append, List.nil_append, List.append_nil, List.set_cons_zero, List.set_cons_succ, List.set_nil, getv0, getvS, truR_bl, asI_i, asB_b, asS_s, asT_t, optI_0, optI_1, opt_some, ixR_tup, ixR_lst, ixR_set, ixR_str, asQ_tup, asQ_lst, asQ_set, asL_lst, asL_set, asC_set, lenR_tup, lenR_lst, lenR_str, lenR_set, atI0, atI1, atI2, ixN0, ixN2, lv_lst, lv_set, seq_lst, seq_tup, seq_str, bop_ai, bop_as, bop_al, bop_si, bop_mi, bop_ms, bop_mb, bop_mo, bop_fd, bop_pw, cmp_lti, cmp_lei, cmp_gti, cmp_gei, cmp_eqi, cmp_nei, cmp_eqs, cmp_nes, cmp_isin, cmp_nin, in_sign, in_tup, bm_app, bm_pop, bm_clear, bm_join, bm_split, bm_ends, bmT_app, bmT_pop, bmT_clear, bmT_join, bmT_split, bmT_ends, newL_f, newL_t, DL.bi_len, DL.bi_all, DL.bi_any, DL.bi_abs, DL.bi_max, DL.bi_min, DL.bi_inti, DL.bi_intb, DL.bi_str, DL.bi_repr, DL.bi_sorted, DL.bi_list, tr_non, tr_bl, tr_int, tr_str, tr_tup, tr_lst, DL.sl_str, DL.sl_lst, En.set_set, if_true, if_false, ite_true, ite_false, Bool.false_eq_true, Nat.zero_lt_succ, true_and, decide_true, decide_false, Bool.not_true, Bool.not_false, List.length_map, asBls_one, all_one]
    refine ⟨(by (try simp only [List.length_cons, List.length_nil]); omega), (by (try simp only [List.length_cons, List.length_nil]); omega), (by (try simp only [List.length_cons, List.length_nil]); omega), ?_⟩
    simp only [c10_0]
    simp only [wSs, wS, wE, wA, wT, wB, wI, wG, wGs, tgsL, wipeD, startD, List.map_cons, List.map_nil, List.length_cons, List.length_nil, List.replicate, List.cons_append, List.nil_append, List.append_nil, List.set_cons_zero, List.set_cons_succ, List.set_nil, getv0, getvS, truR_bl, asI_i, asB_b, asS_s, asT_t, optI_0, optI_1, opt_some, ixR_tup, ixR_lst, ixR_set, ixR_str, asQ_tup, asQ_lst, asQ_set, asL_lst, asL_set, asC_set, lenR_tup, lenR_lst, lenR_str, lenR_set, atI0, atI1, atI2, ixN0, ixN2, lv_lst, lv_set, seq_lst, seq_tup, seq_str, bop_ai, bop_as, bop_al, bop_si, bop_mi, bop_ms, bop_mb, bop_mo, bop_fd, bop_pw, cmp_lti, cmp_lei, cmp_gti, cmp_gei, cmp_eqi, cmp_nei, cmp_eqs, cmp_nes, cmp_isin, cmp_nin, in_sign, in_tup, bm_app, bm_pop, bm_clear, bm_join, bm_split, bm_ends, bmT_app, bmT_pop, bmT_clear, bmT_join, bmT_split, bmT_ends, newL_f, newL_t, DL.bi_len, DL.bi_all, DL.bi_any, DL.bi_abs, DL.bi_max, DL.bi_min, DL.bi_inti, DL.bi_intb, DL.bi_str, DL.bi_repr, DL.bi_sorted, DL.bi_list, tr_non, tr_bl, tr_int, tr_str, tr_tup, tr_lst, DL.sl_str, DL.sl_lst, En.set_set, if_true, if_false, ite_true, ite_false, Bool.false_eq_true, Nat.zero_lt_succ, true_and, decide_true, decide_false, Bool.not_true, Bool.not_false, List.length_map, asBls_one, all_one, g4]
    refine number_spec hk.rm ?_
    have hnl := TL.numL_len (n := z.1.rm) (k := 9) (by decide) hk.rm
    have hol := hk.ol
    rw [bop_as]
    refine ⟨by (try simp only [List.length_cons, List.length_nil]); omega, by omega, ?_⟩
    rw [bop_ar lv_lst (hod z hz'), newL_f]
    have ew : ([D.str wHouse, D.str z.1.nm, D.str (TL.numL z.1.rm ++ [58])] ++ z.1.od.map D.str) = (wordsH z.1).map D.str := by
      unfold wordsH
      rw [List.map_append]
      rfl
    rw [ew, asL_lst, asStrs_map, opt_some, List.length_map]
    have h2 := sum_le (wordsH_len hk)
    have h3 := wordsH_n hk
    exact ⟨by omega, by omega, h1⟩
  simp only [wSs, wS, wE, wA, wT, wB, wI, wG, wGs, tgsL, wipeD, startD, List.map_cons, List.map_nil, List.length_cons, List.length_nil, List.replicate, List.cons_append, List.nil_append, List.append_nil, List.set_cons_zero, List.set_cons_succ, List.set_nil, getv0, getvS, truR_bl, asI_i, asB_b, asS_s, asT_t, optI_0, optI_1, opt_some, ixR_tup, ixR_lst, ixR_set, ixR_str, asQ_tup, asQ_lst, asQ_set, asL_lst, asL_set, asC_set, lenR_tup, lenR_lst, lenR_str, lenR_set, atI0, atI1, atI2, ixN0, ixN2, lv_lst, lv_set, seq_lst, seq_tup, seq_str, bop_ai, bop_as, bop_al, bop_si, bop_mi, bop_ms, bop_mb, bop_mo, bop_fd, bop_pw, cmp_lti, cmp_lei, cmp_gti, cmp_gei, cmp_eqi, cmp_nei, cmp_eqs, cmp_nes, cmp_isin, cmp_nin, in_sign, in_tup, bm_app, bm_pop, bm_clear, bm_join, bm_split, bm_ends, bmT_app, bmT_pop, bmT_clear, bmT_join, bmT_split, bmT_ends, newL_f, newL_t, DL.bi_len, DL.bi_all, DL.bi_any, DL.bi_abs, DL.bi_max, DL.bi_min, DL.bi_inti, DL.bi_intb, DL.bi_str, DL.bi_repr, DL.bi_sorted, DL.bi_list, tr_non, tr_bl, tr_int, tr_str, tr_tup, tr_lst, DL.sl_str, DL.sl_lst, En.set_set, if_true, if_false, ite_true, ite_false, Bool.false_eq_true, Nat.zero_lt_succ, true_and, decide_true, decide_false, Bool.not_true, Bool.not_false, List.length_map, asBls_one, all_one]
  rw [srt_len]
  refine ⟨by omega, fun p hp => ⟨(by (try simp only [List.length_cons, List.length_nil]); omega), (by (try simp only [List.length_cons, List.length_nil]); omega), ?_⟩⟩
  rw [asL_lv (lv_fresh hG hp)]
  refine sort_tup gD (fun z => z.nm) (fun z => ⟨_, rfl⟩) gs hnd.1 (by omega) ?_
  simp only [wSs, wS, wE, wA, wT, wB, wI, wG, wGs, tgsL, wipeD, startD, List.map_cons, List.map_nil, List.length_cons, List.length_nil, List.replicate, List.cons_append, List.nil_append, List.append_nil, List.set_cons_zero, List.set_cons_succ, List.set_nil, getv0, getvS, truR_bl, asI_i, asB_b, asS_s, asT_t, optI_0, optI_1, opt_some, ixR_tup, ixR_lst, ixR_set, ixR_str, asQ_tup, asQ_lst, asQ_set, asL_lst, asL_set, asC_set, lenR_tup, lenR_lst, lenR_str, lenR_set, atI0, atI1, atI2, ixN0, ixN2, lv_lst, lv_set, seq_lst, seq_tup, seq_str, bop_ai, bop_as, bop_al, bop_si, bop_mi, bop_ms, bop_mb, bop_mo, bop_fd, bop_pw, cmp_lti, cmp_lei, cmp_gti, cmp_gei, cmp_eqi, cmp_nei, cmp_eqs, cmp_nes, cmp_isin, cmp_nin, in_sign, in_tup, bm_app, bm_pop, bm_clear, bm_join, bm_split, bm_ends, bmT_app, bmT_pop, bmT_clear, bmT_join, bmT_split, bmT_ends, newL_f, newL_t, DL.bi_len, DL.bi_all, DL.bi_any, DL.bi_abs, DL.bi_max, DL.bi_min, DL.bi_inti, DL.bi_intb, DL.bi_str, DL.bi_repr, DL.bi_sorted, DL.bi_list, tr_non, tr_bl, tr_int, tr_str, tr_tup, tr_lst, DL.sl_str, DL.sl_lst, En.set_set, if_true, if_false, ite_true, ite_false, Bool.false_eq_true, Nat.zero_lt_succ, true_and, decide_true, decide_false, Bool.not_true, Bool.not_false, List.length_map, asBls_one, all_one]
  rw [srt_len]
  refine ⟨by omega, by omega, ?_⟩
  refine wLc_ml gD (fun z => .str (rowG z)) trivial _ _ (fun z hz q1 q2 h1 => ?_) ?_
  · have hz' := srt_mem.mp hz
    have hk := w.gg _ hz'
    unfold gD
    simp only [wSs, wS, wE, wA, wT, wB, wI, wG, wGs, tgsL, wipeD, startD, List.map_cons, List.map_nil, List.length_cons, List.length_nil, List.replicate, List.cons_append, List.nil_append, List.append_nil, List.set_cons_zero, List.set_cons_succ, List.set_nil, getv0, getvS, truR_bl, asI_i, asB_b, asS_s, asT_t, optI_0, optI_1, opt_some, ixR_tup, ixR_lst, ixR_set, ixR_str, asQ_tup, asQ_lst, asQ_set, asL_lst, asL_set, asC_set, lenR_tup, lenR_lst, lenR_str, lenR_set, atI0, atI1, atI2, ixN0, ixN2, lv_lst, lv_set, seq_lst, seq_tup, seq_str, bop_ai, bop_as, bop_al, bop_si, bop_mi, bop_ms, bop_mb, bop_mo, bop_fd, bop_pw, cmp_lti, cmp_lei, cmp_gti, cmp_gei, cmp_eqi, cmp_nei, cmp_eqs, cmp_nes, cmp_isin, cmp_nin, in_sign, in_tup, bm_app, bm_pop, bm_clear, bm_join, bm_split, bm_ends, bmT_app, bmT_pop, bmT_clear, bmT_join, bmT_split, bmT_ends, newL_f, newL_t, DL.bi_len, DL.bi_all, DL.bi_any, DL.bi_abs, DL.bi_max, DL.bi_min, DL.bi_inti, DL.bi_intb, DL.bi_str, DL.bi_repr, DL.bi_sorted, DL.bi_list, tr_non, tr_bl, tr_int, tr_str, tr_tup, tr_lst, DL.sl_str, DL.sl_lst, En.set_set, if_true, if_false, ite_true, ite_false, Bool.false_eq_true, Nat.zero_lt_succ, true_and, decide_true, decide_false, Bool.not_true, Bool.not_false, List.length_map, asBls_one, all_one]
    refine ⟨(by (try simp only [List.length_cons, List.length_nil]); omega), (by (try simp only [List.length_cons, List.length_nil]); omega), ?_⟩
    simp only [c10_1]
    simp only [wSs, wS, wE, wA, wT, wB, wI, wG, wGs, tgsL, wipeD, startD, List.map_cons, List.map_nil, List.length_cons, List.length_nil, List.replicate, List.cons_append, List.nil_append, List.append_nil, List.set_cons_zero, List.set_cons_succ, List.set_nil, getv0, getvS, truR_bl, asI_i, asB_b, asS_s, asT_t, optI_0, optI_1, opt_some, ixR_tup, ixR_lst, ixR_set, ixR_str, asQ_tup, asQ_lst, asQ_set, asL_lst, asL_set, asC_set, lenR_tup, lenR_lst, lenR_str, lenR_set, atI0, atI1, atI2, ixN0, ixN2, lv_lst, lv_set, seq_lst, seq_tup, seq_str, bop_ai, bop_as, bop_al, bop_si, bop_mi, bop_ms, bop_mb, bop_mo, bop_fd, bop_pw, cmp_lti, cmp_lei, cmp_gti, cmp_gei, cmp_eqi, cmp_nei, cmp_eqs, cmp_nes, cmp_isin, cmp_nin, in_sign, in_tup, bm_app, bm_pop, bm_clear, bm_join, bm_split, bm_ends, bmT_app, bmT_pop, bmT_clear, bmT_join, bmT_split, bmT_ends, newL_f, newL_t, DL.bi_len, DL.bi_all, DL.bi_any, DL.bi_abs, DL.bi_max, DL.bi_min, DL.bi_inti, DL.bi_intb, DL.bi_str, DL.bi_repr, DL.bi_sorted, DL.bi_list, tr_non, tr_bl, tr_int, tr_str, tr_tup, tr_lst, DL.sl_str, DL.sl_lst, En.set_set, if_true, if_false, ite_true, ite_false, Bool.false_eq_true, Nat.zero_lt_succ, true_and, decide_true, decide_false, Bool.not_true, Bool.not_false, List.length_map, asBls_one, all_one, g5, g6]
    have ew : ([D.str wGuest, D.str z.nm] ++ (if z.ws = true then [D.str wWishes] else [])) = (wordsG z).map D.str := by
      unfold wordsG
      rw [List.map_append]
      cases z.ws <;> rfl
    have h2 := sum_le (wordsG_len hk)
    have h3 := wordsG_n (g := z)
    have e3 : (wordsG z).length = 2 + (if z.ws = true then [D.str wWishes] else []).length := by
      unfold wordsG
      cases z.ws <;> rfl
    have e4 : (if z.ws = true then [D.str wWishes] else []).length ≤ 1 := by cases z.ws <;> decide
    refine ⟨by omega, by omega, by omega, by omega, ?_⟩
    rw [show (D.str wGuest :: D.str z.nm :: if z.ws = true then [D.str wWishes] else []) = (wordsG z).map D.str from ew, asStrs_map, opt_some]
    exact ⟨by omega, h1⟩
  simp only [wSs, wS, wE, wA, wT, wB, wI, wG, wGs, tgsL, wipeD, startD, List.map_cons, List.map_nil, List.length_cons, List.length_nil, List.replicate, List.cons_append, List.nil_append, List.append_nil, List.set_cons_zero, List.set_cons_succ, List.set_nil, getv0, getvS, truR_bl, asI_i, asB_b, asS_s, asT_t, optI_0, optI_1, opt_some, ixR_tup, ixR_lst, ixR_set, ixR_str, asQ_tup, asQ_lst, asQ_set, asL_lst, asL_set, asC_set, lenR_tup, lenR_lst, lenR_str, lenR_set, atI0, atI1, atI2, ixN0, ixN2, lv_lst, lv_set, seq_lst, seq_tup, seq_str, bop_ai, bop_as, bop_al, bop_si, bop_mi, bop_ms, bop_mb, bop_mo, bop_fd, bop_pw, cmp_lti, cmp_lei, cmp_gti, cmp_gei, cmp_eqi, cmp_nei, cmp_eqs, cmp_nes, cmp_isin, cmp_nin, in_sign, in_tup, bm_app, bm_pop, bm_clear, bm_join, bm_split, bm_ends, bmT_app, bmT_pop, bmT_clear, bmT_join, bmT_split, bmT_ends, newL_f, newL_t, DL.bi_len, DL.bi_all, DL.bi_any, DL.bi_abs, DL.bi_max, DL.bi_min, DL.bi_inti, DL.bi_intb, DL.bi_str, DL.bi_repr, DL.bi_sorted, DL.bi_list, tr_non, tr_bl, tr_int, tr_str, tr_tup, tr_lst, DL.sl_str, DL.sl_lst, En.set_set, if_true, if_false, ite_true, ite_false, Bool.false_eq_true, Nat.zero_lt_succ, true_and, decide_true, decide_false, Bool.not_true, Bool.not_false, List.length_map, asBls_one, all_one]
  rw [aug_l (En.set_same _ _ _)]
  rw [srt_len]
  have hzn : (srt (fun z : House × D => z.1.nm) zs).map (fun z => D.str (rowH z.1)) = ((srt House.nm (zs.map (·.1))).map rowH).map D.str := by
    rw [← srt_map (key := fun z : House × D => z.1.nm) (key' := House.nm) (f := (·.1)) (fun _ => rfl) zs (by rw [show (fun z : House × D => z.1.nm) = House.nm ∘ (·.1) from rfl, ← List.map_map]; exact hnd.2.1)]
    rw [List.map_map, List.map_map]
    rfl
  have hgn2 : (srt (fun z : Guest => z.nm) gs).map (fun z => D.str (rowG z)) = ((srt Guest.nm gs).map rowG).map D.str := by
    rw [List.map_map]
    rfl
  rw [hzn, hgn2, ← List.map_append]
  show _ ∧ _ ∧ asL _ (D.ref p) _
  rw [asL_set, show ((srt House.nm (zs.map (·.1))).map rowH ++ (srt Guest.nm gs).map rowG) = rowsW (zs.map (·.1)) gs from rfl, asStrs_map, opt_some]
  have h2 := sum_le (rowsW_len w)
  have h3 := rowsW_n w
  refine ⟨by omega, by (try simp only [List.length_map, srt_len]); omega, by omega, E, ?_, h⟩
  rw [En.set_set]
  exact En.le_set hp
end KX

set_option Elab.async false
set_option linter.all false
set_option maxRecDepth 100000
set_option maxHeartbeats 4000000
namespace KX
open PySem L2 DL
/-- a world that may be written -/
structure TK (hs : List House) (gs : List Guest) : Prop where
  hn : (hs.map House.nm).Nodup
  gn : (gs.map Guest.nm).Nodup
  hk : ∀ h ∈ hs, HK h
  gk : ∀ g ∈ gs, goodB g.nm = true
  hl : hs.length ≤ 50
  gl : gs.length ≤ 50
theorem WOk.tk {hs : List House} {gs : List Guest} (w : WOk hs gs) : TK hs gs :=
  ⟨(List.nodup_append.mp w.nd).2.1, (List.nodup_append.mp w.nd).1, w.hk, w.gg, w.hn, w.gn⟩
def wD (hs : List House) (gs : List Guest) : D := .tup [.lst (hs.map hD), .lst (gs.map gD)]
theorem rowO {k : Nat} {D' : EndD} {o0 o1 o2 o3 o4 o7 : Option D} : ∀ (l : List (List Nat)) (E : En) (acc : List Nat) (o6 : Option D), (∀ y ∈ l, goodB y = true) → acc.length + l.length * 9 ≤ 10000 →
    (∀ o, D'.nx [o0, o1, o2, o3, o4, some (.str (acc ++ l.flatMap (32 :: ·))), o, o7] E) →
    wFor (fun d s' E' k => 6 < List.length s' ∧ k (List.set s' 6 (some d)) E') (wSs pg.G (wC pg.G pg.F k) f19_0) (fun _ => True) D' (l.map .str) [o0, o1, o2, o3, o4, some (.str acc), o6, o7] E
  | [], E, acc, o6, hg, hl, h => by
    refine ⟨trivial, ?_⟩
    have := h o6
    rwa [List.flatMap_nil, List.append_nil] at this
  | y :: l, E, acc, o6, hg, hl, h => by
    rw [List.map_cons]
    rw [List.length_cons] at hl
    refine ⟨trivial, (by (try simp only [List.length_cons, List.length_nil]); omega), ?_⟩
    simp only [f19_0]
    simp only [wSs, wS, wE, wA, wT, wB, wI, wG, wGs, tgsL, wipeD, startD, List.map_cons, List.map_nil, List.length_cons, List.length_nil, List.replicate, List.cons_append, List.nil_append, List.append_nil, List.set_cons_zero, List.set_cons_succ, List.set_nil, getv0, getvS, truR_bl, asI_i, asB_b, asS_s, asT_t, optI_0, optI_1, opt_some, ixR_tup, ixR_lst, ixR_set, ixR_str, asQ_tup, asQ_lst, asQ_set, asL_lst, asL_set, asC_set, lenR_tup, lenR_lst, lenR_str, lenR_set, atI0, atI1, atI2, ixN0, ixN2, lv_lst, lv_set, seq_lst, seq_tup, seq_str, bop_ai, bop_as, bop_al, bop_si, bop_mi, bop_ms, bop_mb, bop_mo, bop_fd, bop_pw, cmp_lti, cmp_lei, cmp_gti, cmp_gei, cmp_eqi, cmp_nei, cmp_eqs, cmp_nes, cmp_isin, cmp_nin, in_sign, in_tup, bm_app, bm_pop, bm_clear, bm_join, bm_split, bm_ends, bmT_app, bmT_pop, bmT_clear, bmT_join, bmT_split, bmT_ends, newL_f, newL_t, DL.bi_len, DL.bi_all, DL.bi_any, DL.bi_abs, DL.bi_max, DL.bi_min, DL.bi_inti, DL.bi_intb, DL.bi_str, DL.bi_repr, DL.bi_sorted, DL.bi_list, tr_non, tr_bl, tr_int, tr_str, tr_tup, tr_lst, DL.sl_str, DL.sl_lst, En.set_set, if_true, if_false, ite_true, ite_false, Bool.false_eq_true, Nat.zero_lt_succ, true_and, decide_true, decide_false, Bool.not_true, Bool.not_false, List.length_map, asBls_one, all_one]
    have hy := good_len (hg y List.mem_cons_self)
    refine ⟨by omega, by (try simp only [List.length_append, List.length_cons, List.length_nil]); omega, (by (try simp only [List.length_cons, List.length_nil]); omega), E, En.le_refl _, ?_⟩
    refine rowO (k := k) l E (acc ++ [32] ++ y) _ (fun z hz => hg z (List.mem_cons_of_mem _ hz)) (by simp only [List.length_append, List.length_cons, List.length_nil]; omega) fun o => ?_
    have := h o
    rw [List.flatMap_cons] at this
    simpa using this
theorem En.le_of_eq {E F : En} (h : E = F) : E.le F := h ▸ En.le_refl _
theorem rowsHL {k : Nat} {D' : EndD} {r : Addr} {o0 o7 : Option D} {x : XP} : ∀ (l : List House) (E : En) (acc : List (List Nat)) (o2 o3 o4 o5 o6 : Option D), E r = some (.lst (acc.map .str)) → (∀ h ∈ l, HK h) → acc.length + l.length ≤ 1000 →
    (∀ o2 o3 o4 o5 o6, D'.nx [o0, some (.ref r), o2, o3, o4, o5, o6, o7] (E.set r (.lst ((acc ++ l.map rowH).map .str)))) →
    wFor (fun d s' E' k_1 => asT d fun ds => ds.length = 0 + 1 + 1 + 1 ∧ wGs pg.G (wC pg.G pg.F k) (Tgs.cons (Tg.nm 2) (Tgs.cons (Tg.nm 3) (Tgs.cons (Tg.nm 4) Tgs.nil))) ds s' E' k_1 x)
      (wSs pg.G (wC pg.G pg.F k) f19_1) (fun _ => True) D' (l.map hD) [o0, some (.ref r), o2, o3, o4, o5, o6, o7] E
  | [], E, acc, o2, o3, o4, o5, o6, hr, hg, hl, h => by
    refine ⟨trivial, ?_⟩
    have := h o2 o3 o4 o5 o6
    rwa [List.map_nil, List.append_nil, En.set_id hr] at this
  | z :: l, E, acc, o2, o3, o4, o5, o6, hr, hg, hl, h => by
    rw [List.map_cons]
    rw [List.length_cons] at hl
    have hk := hg z List.mem_cons_self
    have hn := good_len hk.nm
    have hm := TL.numL_len (n := z.rm) (k := 9) (by decide) hk.rm
    have ho := hk.ol
    refine ⟨trivial, ?_⟩
    unfold hD
    simp only [f19_1]
    simp only [wSs, wS, wE, wA, wT, wB, wI, wG, wGs, tgsL, wipeD, startD, List.map_cons, List.map_nil, List.length_cons, List.length_nil, List.replicate, List.cons_append, List.nil_append, List.append_nil, List.set_cons_zero, List.set_cons_succ, List.set_nil, getv0, getvS, truR_bl, asI_i, asB_b, asS_s, asT_t, optI_0, optI_1, opt_some, ixR_tup, ixR_lst, ixR_set, ixR_str, asQ_tup, asQ_lst, asQ_set, asL_lst, asL_set, asC_set, lenR_tup, lenR_lst, lenR_str, lenR_set, atI0, atI1, atI2, ixN0, ixN2, lv_lst, lv_set, seq_lst, seq_tup, seq_str, bop_ai, bop_as, bop_al, bop_si, bop_mi, bop_ms, bop_mb, bop_mo, bop_fd, bop_pw, cmp_lti, cmp_lei, cmp_gti, cmp_gei, cmp_eqi, cmp_nei, cmp_eqs, cmp_nes, cmp_isin, cmp_nin, in_sign, in_tup, bm_app, bm_pop, bm_clear, bm_join, bm_split, bm_ends, bmT_app, bmT_pop, bmT_clear, bmT_join, bmT_split, bmT_ends, newL_f, newL_t, DL.bi_len, DL.bi_all, DL.bi_any, DL.bi_abs, DL.bi_max, DL.bi_min, DL.bi_inti, DL.bi_intb, DL.bi_str, DL.bi_repr, DL.bi_sorted, DL.bi_list, tr_non, tr_bl, tr_int, tr_str, tr_tup, tr_lst, DL.sl_str, DL.sl_lst, En.set_set, if_true, if_false, ite_true, ite_false, Bool.false_eq_true, Nat.zero_lt_succ, true_and, decide_true, decide_false, Bool.not_true, Bool.not_false, List.length_map, asBls_one, all_one]
    rw [dec_nat]
    refine ⟨(by (try simp only [List.length_cons, List.length_nil]); omega), (by (try simp only [List.length_cons, List.length_nil]); omega), (by (try simp only [List.length_cons, List.length_nil]); omega), by omega, by (try simp only [List.length_append, List.length_cons, List.length_nil]); omega, ?_, by (try simp only [List.length_append, List.length_cons, List.length_nil]); omega, by (try simp only [List.length_append, List.length_cons, List.length_nil]); omega, (by (try simp only [List.length_cons, List.length_nil]); omega), ?_⟩
    · have := lg (x := (z.rm : Int)) (k := 40) (by omega) (by have := hk.rm; omega) (by decide)
      omega
    refine rowO z.od _ _ _ hk.od (by (try simp only [List.length_append, List.length_cons, List.length_nil]); omega) fun o => ?_
    simp only [wSs, wS, wE, wA, wT, wB, wI, wG, wGs, tgsL, wipeD, startD, List.map_cons, List.map_nil, List.length_cons, List.length_nil, List.replicate, List.cons_append, List.nil_append, List.append_nil, List.set_cons_zero, List.set_cons_succ, List.set_nil, getv0, getvS, truR_bl, asI_i, asB_b, asS_s, asT_t, optI_0, optI_1, opt_some, ixR_tup, ixR_lst, ixR_set, ixR_str, asQ_tup, asQ_lst, asQ_set, asL_lst, asL_set, asC_set, lenR_tup, lenR_lst, lenR_str, lenR_set, atI0, atI1, atI2, ixN0, ixN2, lv_lst, lv_set, seq_lst, seq_tup, seq_str, bop_ai, bop_as, bop_al, bop_si, bop_mi, bop_ms, bop_mb, bop_mo, bop_fd, bop_pw, cmp_lti, cmp_lei, cmp_gti, cmp_gei, cmp_eqi, cmp_nei, cmp_eqs, cmp_nes, cmp_isin, cmp_nin, in_sign, in_tup, bm_app, bm_pop, bm_clear, bm_join, bm_split, bm_ends, bmT_app, bmT_pop, bmT_clear, bmT_join, bmT_split, bmT_ends, newL_f, newL_t, DL.bi_len, DL.bi_all, DL.bi_any, DL.bi_abs, DL.bi_max, DL.bi_min, DL.bi_inti, DL.bi_intb, DL.bi_str, DL.bi_repr, DL.bi_sorted, DL.bi_list, tr_non, tr_bl, tr_int, tr_str, tr_tup, tr_lst, DL.sl_str, DL.sl_lst, En.set_set, if_true, if_false, ite_true, ite_false, Bool.false_eq_true, Nat.zero_lt_succ, true_and, decide_true, decide_false, Bool.not_true, Bool.not_false, List.length_map, asBls_one, all_one]
    rw [asL_ref hr, asC_ref hr]
    refine ⟨by (try simp only [List.length_map]); omega, E.set r (.lst ((acc ++ [rowH z]).map .str)), ?_, ?_⟩
    · refine En.le_of_eq ?_
      rw [List.map_append]
      have e : rowH z = [104, 111, 117, 115, 101, 32] ++ z.nm ++ [32] ++ TL.numL z.rm ++ [58] ++ z.od.flatMap (32 :: ·) := by
        unfold rowH wordsH
        rw [show ([wHouse, z.nm, TL.numL z.rm ++ [58]] ++ z.od) = wHouse :: (z.nm :: (TL.numL z.rm ++ [58]) :: z.od) from rfl, joinL_fm]
        simp
      rw [e]
      rfl
    · refine rowsHL (k := k) l _ (acc ++ [rowH z]) _ _ _ _ _ (En.set_same _ _ _) (fun y hy => hg y (List.mem_cons_of_mem _ hy)) (by rw [List.length_append, List.length_singleton]; omega) fun o2 o3 o4 o5 o6 => ?_
      have := h o2 o3 o4 o5 o6
      rw [En.set_set]
      simpa using this
theorem rep01 (b : Bool) (a : List Nat) : rep (if b = true then (1 : Int) else 0).toNat a = if b = true then a else [] := by
  cases b
  · rfl
  · show [a].flatten = a
    simp
theorem rowsGL {k : Nat} {D' : EndD} {r : Addr} {o0 o3 o4 o5 o6 : Option D} {x : XP} : ∀ (l : List Guest) (E : En) (acc : List (List Nat)) (o2 o7 : Option D), E r = some (.lst (acc.map .str)) → (∀ h ∈ l, goodB h.nm = true) → acc.length + l.length ≤ 1000 →
    (∀ o2 o7, D'.nx [o0, some (.ref r), o2, o3, o4, o5, o6, o7] (E.set r (.lst ((acc ++ l.map rowG).map .str)))) →
    wFor (fun d s' E' k_1 => asT d fun ds => ds.length = 0 + 1 + 1 ∧ wGs pg.G (wC pg.G pg.F k) (Tgs.cons (Tg.nm 2) (Tgs.cons (Tg.nm 7) Tgs.nil)) ds s' E' k_1 x)
      (wSs pg.G (wC pg.G pg.F k) f19_2) (fun _ => True) D' (l.map gD) [o0, some (.ref r), o2, o3, o4, o5, o6, o7] E
  | [], E, acc, o2, o7, hr, hg, hl, h => by
    refine ⟨trivial, ?_⟩
    have := h o2 o7
    rwa [List.map_nil, List.append_nil, En.set_id hr] at this
  | z :: l, E, acc, o2, o7, hr, hg, hl, h => by
    rw [List.map_cons]
    rw [List.length_cons] at hl
    have hn := good_len (hg z List.mem_cons_self)
    refine ⟨trivial, ?_⟩
    unfold gD
    simp only [f19_2]
    simp only [wSs, wS, wE, wA, wT, wB, wI, wG, wGs, tgsL, wipeD, startD, List.map_cons, List.map_nil, List.length_cons, List.length_nil, List.replicate, List.cons_append, List.nil_append, List.append_nil, List.set_cons_zero, List.set_cons_succ, List.set_nil, getv0, getvS, truR_bl, asI_i, asB_b, asS_s, asT_t, optI_0, optI_1, opt_some, ixR_tup, ixR_lst, ixR_set, ixR_str, asQ_tup, asQ_lst, asQ_set, asL_lst, asL_set, asC_set, lenR_tup, lenR_lst, lenR_str, lenR_set, atI0, atI1, atI2, ixN0, ixN2, lv_lst, lv_set, seq_lst, seq_tup, seq_str, bop_ai, bop_as, bop_al, bop_si, bop_mi, bop_ms, bop_mb, bop_mo, bop_fd, bop_pw, cmp_lti, cmp_lei, cmp_gti, cmp_gei, cmp_eqi, cmp_nei, cmp_eqs, cmp_nes, cmp_isin, cmp_nin, in_sign, in_tup, bm_app, bm_pop, bm_clear, bm_join, bm_split, bm_ends, bmT_app, bmT_pop, bmT_clear, bmT_join, bmT_split, bmT_ends, newL_f, newL_t, DL.bi_len, DL.bi_all, DL.bi_any, DL.bi_abs, DL.bi_max, DL.bi_min, DL.bi_inti, DL.bi_intb, DL.bi_str, DL.bi_repr, DL.bi_sorted, DL.bi_list, tr_non, tr_bl, tr_int, tr_str, tr_tup, tr_lst, DL.sl_str, DL.sl_lst, En.set_set, if_true, if_false, ite_true, ite_false, Bool.false_eq_true, Nat.zero_lt_succ, true_and, decide_true, decide_false, Bool.not_true, Bool.not_false, List.length_map, asBls_one, all_one]
    rw [asL_ref hr, rep01, asC_ref hr]
    have b1 : (if z.ws = true then (1 : Int) else 0).toNat ≤ 1 := by cases z.ws <;> decide
    have b2 : (if z.ws = true then (1 : Int) else 0) ≤ 1 ∧ 0 ≤ (if z.ws = true then (1 : Int) else 0) := by cases z.ws <;> decide
    have b3 : (if z.ws = true then ([32, 119, 105, 115, 104, 101, 115] : List Nat) else []).length ≤ 7 := by cases z.ws <;> decide
    refine ⟨(by (try simp only [List.length_cons, List.length_nil]); omega), (by (try simp only [List.length_cons, List.length_nil]); omega), by omega, by omega, by omega, by omega, by omega, by (try simp only [List.length_append, List.length_cons, List.length_nil]); omega, by (try simp only [List.length_map]); omega, E.set r (.lst ((acc ++ [rowG z]).map .str)), ?_, ?_⟩
    · refine En.le_of_eq ?_
      rw [List.map_append]
      have e : rowG z = [103, 117, 101, 115, 116, 32] ++ z.nm ++ (if z.ws = true then [32, 119, 105, 115, 104, 101, 115] else []) := by
        unfold rowG wordsG
        rw [show ([wGuest, z.nm] ++ (if z.ws = true then [wWishes] else [])) = wGuest :: (z.nm :: (if z.ws = true then [wWishes] else [])) from rfl, joinL_fm]
        cases z.ws <;> simp
      rw [e]
      rfl
    · refine rowsGL (k := k) l _ (acc ++ [rowG z]) _ _ (En.set_same _ _ _) (fun y hy => hg y (List.mem_cons_of_mem _ hy)) (by rw [List.length_append, List.length_singleton]; omega) fun o2 o7 => ?_
      have := h o2 o7
      rw [En.set_set]
      simpa using this
theorem text_spec {k : Nat} {E : En} {hs : List House} {gs : List Guest} {q : QE} {x : Nat → En → Prop} (w : TK hs gs) (h : q (.str (textW hs gs)) E) : CL (k + 1) i__law_world_text [wD hs gs] E q x := by
  refine wC_go (fn := ⟨1, 8, b19⟩) rfl rfl ?_
  simp only [b19]
  unfold wD
  simp only [wSs, wS, wE, wA, wT, wB, wI, wG, wGs, tgsL, wipeD, startD, List.map_cons, List.map_nil, List.length_cons, List.length_nil, List.replicate, List.cons_append, List.nil_append, List.append_nil, List.set_cons_zero, List.set_cons_succ, List.set_nil, getv0, getvS, truR_bl, asI_i, asB_b, asS_s, asT_t, optI_0, optI_1, opt_some, ixR_tup, ixR_lst, ixR_set, ixR_str, asQ_tup, asQ_lst, asQ_set, asL_lst, asL_set, asC_set, lenR_tup, lenR_lst, lenR_str, lenR_set, atI0, atI1, atI2, ixN0, ixN2, lv_lst, lv_set, seq_lst, seq_tup, seq_str, bop_ai, bop_as, bop_al, bop_si, bop_mi, bop_ms, bop_mb, bop_mo, bop_fd, bop_pw, cmp_lti, cmp_lei, cmp_gti, cmp_gei, cmp_eqi, cmp_nei, cmp_eqs, cmp_nes, cmp_isin, cmp_nin, in_sign, in_tup, bm_app, bm_pop, bm_clear, bm_join, bm_split, bm_ends, bmT_app, bmT_pop, bmT_clear, bmT_join, bmT_split, bmT_ends, newL_f, newL_t, DL.bi_len, DL.bi_all, DL.bi_any, DL.bi_abs, DL.bi_max, DL.bi_min, DL.bi_inti, DL.bi_intb, DL.bi_str, DL.bi_repr, DL.bi_sorted, DL.bi_list, tr_non, tr_bl, tr_int, tr_str, tr_tup, tr_lst, DL.sl_str, DL.sl_lst, En.set_set, if_true, if_false, ite_true, ite_false, Bool.false_eq_true, Nat.zero_lt_succ, true_and, decide_true, decide_false, Bool.not_true, Bool.not_false, List.length_map, asBls_one, all_one]
  refine ⟨by omega, fun r hr => ⟨(by (try simp only [List.length_cons, List.length_nil]); omega), ?_⟩⟩
  refine sort_tup hD (fun z => z.nm) (fun z => ⟨_, rfl⟩) hs w.hn (by have := w.hl; omega) ?_
  simp only [wSs, wS, wE, wA, wT, wB, wI, wG, wGs, tgsL, wipeD, startD, List.map_cons, List.map_nil, List.length_cons, List.length_nil, List.replicate, List.cons_append, List.nil_append, List.append_nil, List.set_cons_zero, List.set_cons_succ, List.set_nil, getv0, getvS, truR_bl, asI_i, asB_b, asS_s, asT_t, optI_0, optI_1, opt_some, ixR_tup, ixR_lst, ixR_set, ixR_str, asQ_tup, asQ_lst, asQ_set, asL_lst, asL_set, asC_set, lenR_tup, lenR_lst, lenR_str, lenR_set, atI0, atI1, atI2, ixN0, ixN2, lv_lst, lv_set, seq_lst, seq_tup, seq_str, bop_ai, bop_as, bop_al, bop_si, bop_mi, bop_ms, bop_mb, bop_mo, bop_fd, bop_pw, cmp_lti, cmp_lei, cmp_gti, cmp_gei, cmp_eqi, cmp_nei, cmp_eqs, cmp_nes, cmp_isin, cmp_nin, in_sign, in_tup, bm_app, bm_pop, bm_clear, bm_join, bm_split, bm_ends, bmT_app, bmT_pop, bmT_clear, bmT_join, bmT_split, bmT_ends, newL_f, newL_t, DL.bi_len, DL.bi_all, DL.bi_any, DL.bi_abs, DL.bi_max, DL.bi_min, DL.bi_inti, DL.bi_intb, DL.bi_str, DL.bi_repr, DL.bi_sorted, DL.bi_list, tr_non, tr_bl, tr_int, tr_str, tr_tup, tr_lst, DL.sl_str, DL.sl_lst, En.set_set, if_true, if_false, ite_true, ite_false, Bool.false_eq_true, Nat.zero_lt_succ, true_and, decide_true, decide_false, Bool.not_true, Bool.not_false, List.length_map, asBls_one, all_one]
  rw [srt_len]
  have hl := w.hl
  have gl := w.gl
  refine ⟨by omega, ?_⟩
  refine rowsHL _ _ [] _ _ _ _ _ (En.set_same _ _ _) (fun z hz => w.hk z (srt_mem.mp hz)) (by rw [srt_len]; simp; omega) fun o2 o3 o4 o5 o6 => ?_
  simp only [wSs, wS, wE, wA, wT, wB, wI, wG, wGs, tgsL, wipeD, startD, List.map_cons, List.map_nil, List.length_cons, List.length_nil, List.replicate, List.cons_append, List.nil_append, List.append_nil, List.set_cons_zero, List.set_cons_succ, List.set_nil, getv0, getvS, truR_bl, asI_i, asB_b, asS_s, asT_t, optI_0, optI_1, opt_some, ixR_tup, ixR_lst, ixR_set, ixR_str, asQ_tup, asQ_lst, asQ_set, asL_lst, asL_set, asC_set, lenR_tup, lenR_lst, lenR_str, lenR_set, atI0, atI1, atI2, ixN0, ixN2, lv_lst, lv_set, seq_lst, seq_tup, seq_str, bop_ai, bop_as, bop_al, bop_si, bop_mi, bop_ms, bop_mb, bop_mo, bop_fd, bop_pw, cmp_lti, cmp_lei, cmp_gti, cmp_gei, cmp_eqi, cmp_nei, cmp_eqs, cmp_nes, cmp_isin, cmp_nin, in_sign, in_tup, bm_app, bm_pop, bm_clear, bm_join, bm_split, bm_ends, bmT_app, bmT_pop, bmT_clear, bmT_join, bmT_split, bmT_ends, newL_f, newL_t, DL.bi_len, DL.bi_all, DL.bi_any, DL.bi_abs, DL.bi_max, DL.bi_min, DL.bi_inti, DL.bi_intb, DL.bi_str, DL.bi_repr, DL.bi_sorted, DL.bi_list, tr_non, tr_bl, tr_int, tr_str, tr_tup, tr_lst, DL.sl_str, DL.sl_lst, En.set_set, if_true, if_false, ite_true, ite_false, Bool.false_eq_true, Nat.zero_lt_succ, true_and, decide_true, decide_false, Bool.not_true, Bool.not_false, List.length_map, asBls_one, all_one]
  refine sort_tup gD (fun z => z.nm) (fun z => ⟨_, rfl⟩) gs w.gn (by omega) ?_
  simp only [wSs, wS, wE, wA, wT, wB, wI, wG, wGs, tgsL, wipeD, startD, List.map_cons, List.map_nil, List.length_cons, List.length_nil, List.replicate, List.cons_append, List.nil_append, List.append_nil, List.set_cons_zero, List.set_cons_succ, List.set_nil, getv0, getvS, truR_bl, asI_i, asB_b, asS_s, asT_t, optI_0, optI_1, opt_some, ixR_tup, ixR_lst, ixR_set, ixR_str, asQ_tup, asQ_lst, asQ_set, asL_lst, asL_set, asC_set, lenR_tup, lenR_lst, lenR_str, lenR_set, atI0, atI1, atI2, ixN0, ixN2, lv_lst, lv_set, seq_lst, seq_tup, seq_str, bop_ai, bop_as, bop_al, bop_si, bop_mi, bop_ms, bop_mb, bop_mo, bop_fd, bop_pw, cmp_lti, cmp_lei, cmp_gti, cmp_gei, cmp_eqi, cmp_nei, cmp_eqs, cmp_nes, cmp_isin, cmp_nin, in_sign, in_tup, bm_app, bm_pop, bm_clear, bm_join, bm_split, bm_ends, bmT_app, bmT_pop, bmT_clear, bmT_join, bmT_split, bmT_ends, newL_f, newL_t, DL.bi_len, DL.bi_all, DL.bi_any, DL.bi_abs, DL.bi_max, DL.bi_min, DL.bi_inti, DL.bi_intb, DL.bi_str, DL.bi_repr, DL.bi_sorted, DL.bi_list, tr_non, tr_bl, tr_int, tr_str, tr_tup, tr_lst, DL.sl_str, DL.sl_lst, En.set_set, if_true, if_false, ite_true, ite_false, Bool.false_eq_true, Nat.zero_lt_succ, true_and, decide_true, decide_false, Bool.not_true, Bool.not_false, List.length_map, asBls_one, all_one]
  rw [srt_len]
  refine ⟨by omega, ?_⟩
  refine rowsGL _ _ ((srt House.nm hs).map rowH) _ _ (En.set_same _ _ _) (fun z hz => w.gk z (srt_mem.mp hz)) (by rw [List.length_map, srt_len, srt_len]; omega) fun o2 o7 => ?_
  simp only [wSs, wS, wE, wA, wT, wB, wI, wG, wGs, tgsL, wipeD, startD, List.map_cons, List.map_nil, List.length_cons, List.length_nil, List.replicate, List.cons_append, List.nil_append, List.append_nil, List.set_cons_zero, List.set_cons_succ, List.set_nil, getv0, getvS, truR_bl, asI_i, asB_b, asS_s, asT_t, optI_0, optI_1, opt_some, ixR_tup, ixR_lst, ixR_set, ixR_str, asQ_tup, asQ_lst, asQ_set, asL_lst, asL_set, asC_set, lenR_tup, lenR_lst, lenR_str, lenR_set, atI0, atI1, atI2, ixN0, ixN2, lv_lst, lv_set, seq_lst, seq_tup, seq_str, bop_ai, bop_as, bop_al, bop_si, bop_mi, bop_ms, bop_mb, bop_mo, bop_fd, bop_pw, cmp_lti, cmp_lei, cmp_gti, cmp_gei, cmp_eqi, cmp_nei, cmp_eqs, cmp_nes, cmp_isin, cmp_nin, in_sign, in_tup, bm_app, bm_pop, bm_clear, bm_join, bm_split, bm_ends, bmT_app, bmT_pop, bmT_clear, bmT_join, bmT_split, bmT_ends, newL_f, newL_t, DL.bi_len, DL.bi_all, DL.bi_any, DL.bi_abs, DL.bi_max, DL.bi_min, DL.bi_inti, DL.bi_intb, DL.bi_str, DL.bi_repr, DL.bi_sorted, DL.bi_list, tr_non, tr_bl, tr_int, tr_str, tr_tup, tr_lst, DL.sl_str, DL.sl_lst, En.set_set, if_true, if_false, ite_true, ite_false, Bool.false_eq_true, Nat.zero_lt_succ, true_and, decide_true, decide_false, Bool.not_true, Bool.not_false, List.length_map, asBls_one, all_one]
  rw [asStrs_map, opt_some, show ((srt House.nm hs).map rowH ++ (srt Guest.nm gs).map rowG) = rowsW hs gs from rfl]
  have h2 : ∀ y ∈ rowsW hs gs, y.length ≤ 600 := by
    intro y hy
    rcases List.mem_append.mp hy with hy | hy
    · obtain ⟨z, hz, rfl⟩ := List.mem_map.mp hy
      exact rowH_len (w.hk z (srt_mem.mp hz))
    · obtain ⟨z, hz, rfl⟩ := List.mem_map.mp hy
      exact rowG_len (w.gk z (srt_mem.mp hz))
  have h3 : (rowsW hs gs).length ≤ 100 := by
    unfold rowsW
    rw [List.length_append, List.length_map, List.length_map, srt_len, srt_len]
    omega
  have := sum_le h2
  refine ⟨by omega, E, ?_, h⟩
  exact En.le_set hr
end KX

set_option Elab.async false
set_option linter.all false
set_option maxRecDepth 100000
set_option maxHeartbeats 4000000
namespace KX
open PySem L2 DL
theorem g2 : pg.G 2 = some (.str [48, 49, 50, 51, 52, 53, 54, 55, 56, 57]) := rfl
theorem numL_head : ∀ (n : Nat), 0 < n → ∃ c r, TL.numL n = c :: r ∧ c ≠ 48 := by
  intro n
  induction n using Nat.strongRecOn with
  | _ n ih =>
    intro hn
    by_cases h : n < 10
    · exact ⟨48 + n, [], TL.numL_lt h, by omega⟩
    · obtain ⟨c, r, e, hc⟩ := ih (n / 10) (by omega) (by omega)
      exact ⟨c, r ++ [48 + n % 10], by rw [TL.numL_step (by omega), e]; rfl, hc⟩
theorem toS_num (n : Nat) : toS (TL.numL n) = Str.ofString (toString ((n : Nat) : Int)) := by
  rw [← TL.tl_num]
  exact TL.mk_tl _
theorem numin_spec {k : Nat} {E : En} {n : Nat} {q : QE} {x : Nat → En → Prop} (hn : n < 10 ^ 9) (h : q (.int n) E) : CL (k + 2) i_number_in [.str (TL.numL n)] E q x := by
  refine wC_go (fn := ⟨1, 2, b8⟩) rfl rfl ?_
  simp only [b8]
  have hl := TL.numL_len (n := n) (k := 9) (by decide) hn
  have hp : 0 < (TL.numL n).length := List.length_pos_iff.mpr (TL.numL_ne n)
  simp only [wSs, wS, wE, wA, wT, wB, wI, wG, wGs, tgsL, wipeD, startD, List.map_cons, List.map_nil, List.length_cons, List.length_nil, List.replicate, List.cons_append, List.nil_append, List.append_nil, List.set_cons_zero, List.set_cons_succ, List.set_nil, getv0, getvS, truR_bl, asI_i, asB_b, asS_s, asT_t, optI_0, optI_1, opt_some, ixR_tup, ixR_lst, ixR_set, ixR_str, asQ_tup, asQ_lst, asQ_set, asL_lst, asL_set, asC_set, lenR_tup, lenR_lst, lenR_str, lenR_set, atI0, atI1, atI2, ixN0, ixN2, lv_lst, lv_set, seq_lst, seq_tup, seq_str, bop_ai, bop_as, bop_al, bop_si, bop_mi, bop_ms, bop_mb, bop_mo, bop_fd, bop_pw, cmp_lti, cmp_lei, cmp_gti, cmp_gei, cmp_eqi, cmp_nei, cmp_eqs, cmp_nes, cmp_isin, cmp_nin, in_sign, in_tup, bm_app, bm_pop, bm_clear, bm_join, bm_split, bm_ends, bmT_app, bmT_pop, bmT_clear, bmT_join, bmT_split, bmT_ends, newL_f, newL_t, DL.bi_len, DL.bi_all, DL.bi_any, DL.bi_abs, DL.bi_max, DL.bi_min, DL.bi_inti, DL.bi_intb, DL.bi_str, DL.bi_repr, DL.bi_sorted, DL.bi_list, tr_non, tr_bl, tr_int, tr_str, tr_tup, tr_lst, DL.sl_str, DL.sl_lst, En.set_set, if_true, if_false, ite_true, ite_false, Bool.false_eq_true, Nat.zero_lt_succ, true_and, decide_true, decide_false, Bool.not_true, Bool.not_false, List.length_map, asBls_one, all_one, g3]
  rw [decide_eq_true (show (1 : Int) ≤ ((TL.numL n).length : Int) by omega), decide_eq_true (show ((TL.numL n).length : Int) ≤ 9 by omega)]
  simp only [wSs, wS, wE, wA, wT, wB, wI, wG, wGs, tgsL, wipeD, startD, List.map_cons, List.map_nil, List.length_cons, List.length_nil, List.replicate, List.cons_append, List.nil_append, List.append_nil, List.set_cons_zero, List.set_cons_succ, List.set_nil, getv0, getvS, truR_bl, asI_i, asB_b, asS_s, asT_t, optI_0, optI_1, opt_some, ixR_tup, ixR_lst, ixR_set, ixR_str, asQ_tup, asQ_lst, asQ_set, asL_lst, asL_set, asC_set, lenR_tup, lenR_lst, lenR_str, lenR_set, atI0, atI1, atI2, ixN0, ixN2, lv_lst, lv_set, seq_lst, seq_tup, seq_str, bop_ai, bop_as, bop_al, bop_si, bop_mi, bop_ms, bop_mb, bop_mo, bop_fd, bop_pw, cmp_lti, cmp_lei, cmp_gti, cmp_gei, cmp_eqi, cmp_nei, cmp_eqs, cmp_nes, cmp_isin, cmp_nin, in_sign, in_tup, bm_app, bm_pop, bm_clear, bm_join, bm_split, bm_ends, bmT_app, bmT_pop, bmT_clear, bmT_join, bmT_split, bmT_ends, newL_f, newL_t, DL.bi_len, DL.bi_all, DL.bi_any, DL.bi_abs, DL.bi_max, DL.bi_min, DL.bi_inti, DL.bi_intb, DL.bi_str, DL.bi_repr, DL.bi_sorted, DL.bi_list, tr_non, tr_bl, tr_int, tr_str, tr_tup, tr_lst, DL.sl_str, DL.sl_lst, En.set_set, if_true, if_false, ite_true, ite_false, Bool.false_eq_true, Nat.zero_lt_succ, true_and, decide_true, decide_false, Bool.not_true, Bool.not_false, List.length_map, asBls_one, all_one]
  refine ⟨by omega, by omega, ?_⟩
  refine wLc_ml (fun c => .str [c]) (fun _ => .bl true) trivial _ _ (fun c hc q1 q2 h1 => ?_) ?_
  · refine ⟨(by (try simp only [List.length_cons, List.length_nil]); omega), ?_⟩
    dsimp only
    rw [if_pos rfl]
    simp only [c8_0]
    simp only [wSs, wS, wE, wA, wT, wB, wI, wG, wGs, tgsL, wipeD, startD, List.map_cons, List.map_nil, List.length_cons, List.length_nil, List.replicate, List.cons_append, List.nil_append, List.append_nil, List.set_cons_zero, List.set_cons_succ, List.set_nil, getv0, getvS, truR_bl, asI_i, asB_b, asS_s, asT_t, optI_0, optI_1, opt_some, ixR_tup, ixR_lst, ixR_set, ixR_str, asQ_tup, asQ_lst, asQ_set, asL_lst, asL_set, asC_set, lenR_tup, lenR_lst, lenR_str, lenR_set, atI0, atI1, atI2, ixN0, ixN2, lv_lst, lv_set, seq_lst, seq_tup, seq_str, bop_ai, bop_as, bop_al, bop_si, bop_mi, bop_ms, bop_mb, bop_mo, bop_fd, bop_pw, cmp_lti, cmp_lei, cmp_gti, cmp_gei, cmp_eqi, cmp_nei, cmp_eqs, cmp_nes, cmp_isin, cmp_nin, in_sign, in_tup, bm_app, bm_pop, bm_clear, bm_join, bm_split, bm_ends, bmT_app, bmT_pop, bmT_clear, bmT_join, bmT_split, bmT_ends, newL_f, newL_t, DL.bi_len, DL.bi_all, DL.bi_any, DL.bi_abs, DL.bi_max, DL.bi_min, DL.bi_inti, DL.bi_intb, DL.bi_str, DL.bi_repr, DL.bi_sorted, DL.bi_list, tr_non, tr_bl, tr_int, tr_str, tr_tup, tr_lst, DL.sl_str, DL.sl_lst, En.set_set, if_true, if_false, ite_true, ite_false, Bool.false_eq_true, Nat.zero_lt_succ, true_and, decide_true, decide_false, Bool.not_true, Bool.not_false, List.length_map, asBls_one, all_one, g2]
    rw [decide_eq_true (show c ∈ [48, 49, 50, 51, 52, 53, 54, 55, 56, 57] from ?_)]
    · exact h1
    · have := TL.numL_digits n c hc
      have : c - 48 < 10 ∧ c = 48 + (c - 48) := by omega
      obtain ⟨a, b⟩ := this
      have key : ∀ i : Fin 10, 48 + i.val ∈ [48, 49, 50, 51, 52, 53, 54, 55, 56, 57] := by decide
      rw [b]
      exact key ⟨c - 48, a⟩
  have ab : asBls ((TL.numL n).map fun _ => D.bl true) = some ((TL.numL n).map fun _ => true) := by
    have := asBls_map ((TL.numL n).map fun _ => true)
    rwa [List.map_map] at this
  have ao : (((TL.numL n).map fun _ => true).all id) = true := by simp
  simp only [wSs, wS, wE, wA, wT, wB, wI, wG, wGs, tgsL, wipeD, startD, List.map_cons, List.map_nil, List.length_cons, List.length_nil, List.replicate, List.cons_append, List.nil_append, List.append_nil, List.set_cons_zero, List.set_cons_succ, List.set_nil, getv0, getvS, truR_bl, asI_i, asB_b, asS_s, asT_t, optI_0, optI_1, opt_some, ixR_tup, ixR_lst, ixR_set, ixR_str, asQ_tup, asQ_lst, asQ_set, asL_lst, asL_set, asC_set, lenR_tup, lenR_lst, lenR_str, lenR_set, atI0, atI1, atI2, ixN0, ixN2, lv_lst, lv_set, seq_lst, seq_tup, seq_str, bop_ai, bop_as, bop_al, bop_si, bop_mi, bop_ms, bop_mb, bop_mo, bop_fd, bop_pw, cmp_lti, cmp_lei, cmp_gti, cmp_gei, cmp_eqi, cmp_nei, cmp_eqs, cmp_nes, cmp_isin, cmp_nin, in_sign, in_tup, bm_app, bm_pop, bm_clear, bm_join, bm_split, bm_ends, bmT_app, bmT_pop, bmT_clear, bmT_join, bmT_split, bmT_ends, newL_f, newL_t, DL.bi_len, DL.bi_all, DL.bi_any, DL.bi_abs, DL.bi_max, DL.bi_min, DL.bi_inti, DL.bi_intb, DL.bi_str, DL.bi_repr, DL.bi_sorted, DL.bi_list, tr_non, tr_bl, tr_int, tr_str, tr_tup, tr_lst, DL.sl_str, DL.sl_lst, En.set_set, if_true, if_false, ite_true, ite_false, Bool.false_eq_true, Nat.zero_lt_succ, true_and, decide_true, decide_false, Bool.not_true, Bool.not_false, List.length_map, asBls_one, all_one]
  rw [ab, opt_some, ao]
  refine ⟨by omega, need_spec ?_⟩
  try simp only [wSs, wS, wE, wA, wT, wB, wI, wG, wGs, tgsL, wipeD, startD, List.map_cons, List.map_nil, List.length_cons, List.length_nil, List.replicate, List.cons_append, List.nil_append, List.append_nil, List.set_cons_zero, List.set_cons_succ, List.set_nil, getv0, getvS, truR_bl, asI_i, asB_b, asS_s, asT_t, optI_0, optI_1, opt_some, ixR_tup, ixR_lst, ixR_set, ixR_str, asQ_tup, asQ_lst, asQ_set, asL_lst, asL_set, asC_set, lenR_tup, lenR_lst, lenR_str, lenR_set, atI0, atI1, atI2, ixN0, ixN2, lv_lst, lv_set, seq_lst, seq_tup, seq_str, bop_ai, bop_as, bop_al, bop_si, bop_mi, bop_ms, bop_mb, bop_mo, bop_fd, bop_pw, cmp_lti, cmp_lei, cmp_gti, cmp_gei, cmp_eqi, cmp_nei, cmp_eqs, cmp_nes, cmp_isin, cmp_nin, in_sign, in_tup, bm_app, bm_pop, bm_clear, bm_join, bm_split, bm_ends, bmT_app, bmT_pop, bmT_clear, bmT_join, bmT_split, bmT_ends, newL_f, newL_t, DL.bi_len, DL.bi_all, DL.bi_any, DL.bi_abs, DL.bi_max, DL.bi_min, DL.bi_inti, DL.bi_intb, DL.bi_str, DL.bi_repr, DL.bi_sorted, DL.bi_list, tr_non, tr_bl, tr_int, tr_str, tr_tup, tr_lst, DL.sl_str, DL.sl_lst, En.set_set, if_true, if_false, ite_true, ite_false, Bool.false_eq_true, Nat.zero_lt_succ, true_and, decide_true, decide_false, Bool.not_true, Bool.not_false, List.length_map, asBls_one, all_one]
  have fin : ∀ E1 : En, E1 = E → ∃ m, PySem.intText? (toS (TL.numL n)) = some m ∧ (TL.numL n).length ≤ 640 ∧ ∃ E2, E2.le E1 ∧ q (.int m) E2 := fun E1 e => by
    subst e
    exact ⟨n, by rw [toS_num]; exact TL.int_num (by omega), by omega, ex_le h⟩
  by_cases h0 : n = 0
  · subst h0
    rw [show (TL.numL 0 == [48]) = true by decide +kernel]
    simp only [wSs, wS, wE, wA, wT, wB, wI, wG, wGs, tgsL, wipeD, startD, List.map_cons, List.map_nil, List.length_cons, List.length_nil, List.replicate, List.cons_append, List.nil_append, List.append_nil, List.set_cons_zero, List.set_cons_succ, List.set_nil, getv0, getvS, truR_bl, asI_i, asB_b, asS_s, asT_t, optI_0, optI_1, opt_some, ixR_tup, ixR_lst, ixR_set, ixR_str, asQ_tup, asQ_lst, asQ_set, asL_lst, asL_set, asC_set, lenR_tup, lenR_lst, lenR_str, lenR_set, atI0, atI1, atI2, ixN0, ixN2, lv_lst, lv_set, seq_lst, seq_tup, seq_str, bop_ai, bop_as, bop_al, bop_si, bop_mi, bop_ms, bop_mb, bop_mo, bop_fd, bop_pw, cmp_lti, cmp_lei, cmp_gti, cmp_gei, cmp_eqi, cmp_nei, cmp_eqs, cmp_nes, cmp_isin, cmp_nin, in_sign, in_tup, bm_app, bm_pop, bm_clear, bm_join, bm_split, bm_ends, bmT_app, bmT_pop, bmT_clear, bmT_join, bmT_split, bmT_ends, newL_f, newL_t, DL.bi_len, DL.bi_all, DL.bi_any, DL.bi_abs, DL.bi_max, DL.bi_min, DL.bi_inti, DL.bi_intb, DL.bi_str, DL.bi_repr, DL.bi_sorted, DL.bi_list, tr_non, tr_bl, tr_int, tr_str, tr_tup, tr_lst, DL.sl_str, DL.sl_lst, En.set_set, if_true, if_false, ite_true, ite_false, Bool.false_eq_true, Nat.zero_lt_succ, true_and, decide_true, decide_false, Bool.not_true, Bool.not_false, List.length_map, asBls_one, all_one]
    refine need_spec ?_
    try simp only [wSs, wS, wE, wA, wT, wB, wI, wG, wGs, tgsL, wipeD, startD, List.map_cons, List.map_nil, List.length_cons, List.length_nil, List.replicate, List.cons_append, List.nil_append, List.append_nil, List.set_cons_zero, List.set_cons_succ, List.set_nil, getv0, getvS, truR_bl, asI_i, asB_b, asS_s, asT_t, optI_0, optI_1, opt_some, ixR_tup, ixR_lst, ixR_set, ixR_str, asQ_tup, asQ_lst, asQ_set, asL_lst, asL_set, asC_set, lenR_tup, lenR_lst, lenR_str, lenR_set, atI0, atI1, atI2, ixN0, ixN2, lv_lst, lv_set, seq_lst, seq_tup, seq_str, bop_ai, bop_as, bop_al, bop_si, bop_mi, bop_ms, bop_mb, bop_mo, bop_fd, bop_pw, cmp_lti, cmp_lei, cmp_gti, cmp_gei, cmp_eqi, cmp_nei, cmp_eqs, cmp_nes, cmp_isin, cmp_nin, in_sign, in_tup, bm_app, bm_pop, bm_clear, bm_join, bm_split, bm_ends, bmT_app, bmT_pop, bmT_clear, bmT_join, bmT_split, bmT_ends, newL_f, newL_t, DL.bi_len, DL.bi_all, DL.bi_any, DL.bi_abs, DL.bi_max, DL.bi_min, DL.bi_inti, DL.bi_intb, DL.bi_str, DL.bi_repr, DL.bi_sorted, DL.bi_list, tr_non, tr_bl, tr_int, tr_str, tr_tup, tr_lst, DL.sl_str, DL.sl_lst, En.set_set, if_true, if_false, ite_true, ite_false, Bool.false_eq_true, Nat.zero_lt_succ, true_and, decide_true, decide_false, Bool.not_true, Bool.not_false, List.length_map, asBls_one, all_one]
    exact fin _ rfl
  · obtain ⟨c, r, e, hc⟩ := numL_head n (by omega)
    have e1 : (TL.numL n == [48]) = false := by
      rw [e]
      refine beq_eq_false_iff_ne.mpr fun z => ?_
      injection z with z _
      exact hc z
    rw [e1]
    simp only [wSs, wS, wE, wA, wT, wB, wI, wG, wGs, tgsL, wipeD, startD, List.map_cons, List.map_nil, List.length_cons, List.length_nil, List.replicate, List.cons_append, List.nil_append, List.append_nil, List.set_cons_zero, List.set_cons_succ, List.set_nil, getv0, getvS, truR_bl, asI_i, asB_b, asS_s, asT_t, optI_0, optI_1, opt_some, ixR_tup, ixR_lst, ixR_set, ixR_str, asQ_tup, asQ_lst, asQ_set, asL_lst, asL_set, asC_set, lenR_tup, lenR_lst, lenR_str, lenR_set, atI0, atI1, atI2, ixN0, ixN2, lv_lst, lv_set, seq_lst, seq_tup, seq_str, bop_ai, bop_as, bop_al, bop_si, bop_mi, bop_ms, bop_mb, bop_mo, bop_fd, bop_pw, cmp_lti, cmp_lei, cmp_gti, cmp_gei, cmp_eqi, cmp_nei, cmp_eqs, cmp_nes, cmp_isin, cmp_nin, in_sign, in_tup, bm_app, bm_pop, bm_clear, bm_join, bm_split, bm_ends, bmT_app, bmT_pop, bmT_clear, bmT_join, bmT_split, bmT_ends, newL_f, newL_t, DL.bi_len, DL.bi_all, DL.bi_any, DL.bi_abs, DL.bi_max, DL.bi_min, DL.bi_inti, DL.bi_intb, DL.bi_str, DL.bi_repr, DL.bi_sorted, DL.bi_list, tr_non, tr_bl, tr_int, tr_str, tr_tup, tr_lst, DL.sl_str, DL.sl_lst, En.set_set, if_true, if_false, ite_true, ite_false, Bool.false_eq_true, Nat.zero_lt_succ, true_and, decide_true, decide_false, Bool.not_true, Bool.not_false, List.length_map, asBls_one, all_one]
    have e2 : atI (TL.numL n) 0 = some c := by rw [e]; exact atI0 _ _
    rw [e2]
    have e3 : (!([c] == [48])) = true := by
      rw [Bool.not_eq_true', beq_eq_false_iff_ne]
      intro z
      injection z with z _
      exact hc z
    simp only [wSs, wS, wE, wA, wT, wB, wI, wG, wGs, tgsL, wipeD, startD, List.map_cons, List.map_nil, List.length_cons, List.length_nil, List.replicate, List.cons_append, List.nil_append, List.append_nil, List.set_cons_zero, List.set_cons_succ, List.set_nil, getv0, getvS, truR_bl, asI_i, asB_b, asS_s, asT_t, optI_0, optI_1, opt_some, ixR_tup, ixR_lst, ixR_set, ixR_str, asQ_tup, asQ_lst, asQ_set, asL_lst, asL_set, asC_set, lenR_tup, lenR_lst, lenR_str, lenR_set, atI0, atI1, atI2, ixN0, ixN2, lv_lst, lv_set, seq_lst, seq_tup, seq_str, bop_ai, bop_as, bop_al, bop_si, bop_mi, bop_ms, bop_mb, bop_mo, bop_fd, bop_pw, cmp_lti, cmp_lei, cmp_gti, cmp_gei, cmp_eqi, cmp_nei, cmp_eqs, cmp_nes, cmp_isin, cmp_nin, in_sign, in_tup, bm_app, bm_pop, bm_clear, bm_join, bm_split, bm_ends, bmT_app, bmT_pop, bmT_clear, bmT_join, bmT_split, bmT_ends, newL_f, newL_t, DL.bi_len, DL.bi_all, DL.bi_any, DL.bi_abs, DL.bi_max, DL.bi_min, DL.bi_inti, DL.bi_intb, DL.bi_str, DL.bi_repr, DL.bi_sorted, DL.bi_list, tr_non, tr_bl, tr_int, tr_str, tr_tup, tr_lst, DL.sl_str, DL.sl_lst, En.set_set, if_true, if_false, ite_true, ite_false, Bool.false_eq_true, Nat.zero_lt_succ, true_and, decide_true, decide_false, Bool.not_true, Bool.not_false, List.length_map, asBls_one, all_one]
    rw [e3]
    refine ⟨by omega, need_spec ?_⟩
    try simp only [wSs, wS, wE, wA, wT, wB, wI, wG, wGs, tgsL, wipeD, startD, List.map_cons, List.map_nil, List.length_cons, List.length_nil, List.replicate, List.cons_append, List.nil_append, List.append_nil, List.set_cons_zero, List.set_cons_succ, List.set_nil, getv0, getvS, truR_bl, asI_i, asB_b, asS_s, asT_t, optI_0, optI_1, opt_some, ixR_tup, ixR_lst, ixR_set, ixR_str, asQ_tup, asQ_lst, asQ_set, asL_lst, asL_set, asC_set, lenR_tup, lenR_lst, lenR_str, lenR_set, atI0, atI1, atI2, ixN0, ixN2, lv_lst, lv_set, seq_lst, seq_tup, seq_str, bop_ai, bop_as, bop_al, bop_si, bop_mi, bop_ms, bop_mb, bop_mo, bop_fd, bop_pw, cmp_lti, cmp_lei, cmp_gti, cmp_gei, cmp_eqi, cmp_nei, cmp_eqs, cmp_nes, cmp_isin, cmp_nin, in_sign, in_tup, bm_app, bm_pop, bm_clear, bm_join, bm_split, bm_ends, bmT_app, bmT_pop, bmT_clear, bmT_join, bmT_split, bmT_ends, newL_f, newL_t, DL.bi_len, DL.bi_all, DL.bi_any, DL.bi_abs, DL.bi_max, DL.bi_min, DL.bi_inti, DL.bi_intb, DL.bi_str, DL.bi_repr, DL.bi_sorted, DL.bi_list, tr_non, tr_bl, tr_int, tr_str, tr_tup, tr_lst, DL.sl_str, DL.sl_lst, En.set_set, if_true, if_false, ite_true, ite_false, Bool.false_eq_true, Nat.zero_lt_succ, true_and, decide_true, decide_false, Bool.not_true, Bool.not_false, List.length_map, asBls_one, all_one]
    exact fin _ rfl
theorem words_spec {k : Nat} {E : En} {a : List Nat} {q : QE} {x : Nat → En → Prop} (hl : a.length ≤ 100000) (h : q (.lst ((TL.spl [32] 0 [] a).map .str)) E) (hn : (TL.spl [32] 0 [] a).length ≤ 100000) : CL (k + 2) i_words_in [.str a] E q x := by
  refine wC_go (fn := ⟨1, 1, b9⟩) rfl rfl ?_
  simp only [b9]
  simp only [wSs, wS, wE, wA, wT, wB, wI, wG, wGs, tgsL, wipeD, startD, List.map_cons, List.map_nil, List.length_cons, List.length_nil, List.replicate, List.cons_append, List.nil_append, List.append_nil, List.set_cons_zero, List.set_cons_succ, List.set_nil, getv0, getvS, truR_bl, asI_i, asB_b, asS_s, asT_t, optI_0, optI_1, opt_some, ixR_tup, ixR_lst, ixR_set, ixR_str, asQ_tup, asQ_lst, asQ_set, asL_lst, asL_set, asC_set, lenR_tup, lenR_lst, lenR_str, lenR_set, atI0, atI1, atI2, ixN0, ixN2, lv_lst, lv_set, seq_lst, seq_tup, seq_str, bop_ai, bop_as, bop_al, bop_si, bop_mi, bop_ms, bop_mb, bop_mo, bop_fd, bop_pw, cmp_lti, cmp_lei, cmp_gti, cmp_gei, cmp_eqi, cmp_nei, cmp_eqs, cmp_nes, cmp_isin, cmp_nin, in_sign, in_tup, bm_app, bm_pop, bm_clear, bm_join, bm_split, bm_ends, bmT_app, bmT_pop, bmT_clear, bmT_join, bmT_split, bmT_ends, newL_f, newL_t, DL.bi_len, DL.bi_all, DL.bi_any, DL.bi_abs, DL.bi_max, DL.bi_min, DL.bi_inti, DL.bi_intb, DL.bi_str, DL.bi_repr, DL.bi_sorted, DL.bi_list, tr_non, tr_bl, tr_int, tr_str, tr_tup, tr_lst, DL.sl_str, DL.sl_lst, En.set_set, if_true, if_false, ite_true, ite_false, Bool.false_eq_true, Nat.zero_lt_succ, true_and, decide_true, decide_false, Bool.not_true, Bool.not_false, List.length_map, asBls_one, all_one]
  refine need_spec ?_
  try simp only [wSs, wS, wE, wA, wT, wB, wI, wG, wGs, tgsL, wipeD, startD, List.map_cons, List.map_nil, List.length_cons, List.length_nil, List.replicate, List.cons_append, List.nil_append, List.append_nil, List.set_cons_zero, List.set_cons_succ, List.set_nil, getv0, getvS, truR_bl, asI_i, asB_b, asS_s, asT_t, optI_0, optI_1, opt_some, ixR_tup, ixR_lst, ixR_set, ixR_str, asQ_tup, asQ_lst, asQ_set, asL_lst, asL_set, asC_set, lenR_tup, lenR_lst, lenR_str, lenR_set, atI0, atI1, atI2, ixN0, ixN2, lv_lst, lv_set, seq_lst, seq_tup, seq_str, bop_ai, bop_as, bop_al, bop_si, bop_mi, bop_ms, bop_mb, bop_mo, bop_fd, bop_pw, cmp_lti, cmp_lei, cmp_gti, cmp_gei, cmp_eqi, cmp_nei, cmp_eqs, cmp_nes, cmp_isin, cmp_nin, in_sign, in_tup, bm_app, bm_pop, bm_clear, bm_join, bm_split, bm_ends, bmT_app, bmT_pop, bmT_clear, bmT_join, bmT_split, bmT_ends, newL_f, newL_t, DL.bi_len, DL.bi_all, DL.bi_any, DL.bi_abs, DL.bi_max, DL.bi_min, DL.bi_inti, DL.bi_intb, DL.bi_str, DL.bi_repr, DL.bi_sorted, DL.bi_list, tr_non, tr_bl, tr_int, tr_str, tr_tup, tr_lst, DL.sl_str, DL.sl_lst, En.set_set, if_true, if_false, ite_true, ite_false, Bool.false_eq_true, Nat.zero_lt_succ, true_and, decide_true, decide_false, Bool.not_true, Bool.not_false, List.length_map, asBls_one, all_one]
  exact ⟨rfl, by omega, by omega, ex_le h⟩
theorem cut_m1 {α : Type} (xs : List α) (a : α) : cut (xs ++ [a]) none (some (-1)) = xs := by
  unfold cut
  have e : HT.sIx (xs ++ [a]).length (xs ++ [a]).length (some (-1)) = xs.length := by
    unfold HT.sIx
    simp
    try omega
  rw [e, HT.sIx_none, List.drop_zero, Nat.sub_zero, List.take_left]
theorem housein_spec {k : Nat} {E : En} {z : House} {q : QE} {x : Nat → En → Prop} (hk : HK z) (h : ∀ p, E p = none → q (.tup [.str z.nm, .int z.rm, .ref p]) (E.set p (.lst (z.od.map .str)))) : CL (k + 3) i_house_in [.lst ((wordsH z).map .str)] E q x := by
  refine wC_go (fn := ⟨1, 1, b11⟩) rfl rfl ?_
  simp only [b11]
  have hn := wordsH_n hk
  have hm := TL.numL_len (n := z.rm) (k := 9) (by decide) hk.rm
  have e0 : (wordsH z).map D.str = D.str wHouse :: D.str z.nm :: D.str (TL.numL z.rm ++ [58]) :: z.od.map D.str := rfl
  have ol := hk.ol
  have ec : cut (D.str wHouse :: D.str z.nm :: D.str (TL.numL z.rm ++ [58]) :: z.od.map D.str) (some 3) none = z.od.map D.str := by
    rw [show (some (3 : Int)) = some ((3 : Nat) : Int) from rfl, cut_from]
    rfl
  rw [e0]
  simp only [wSs, wS, wE, wA, wT, wB, wI, wG, wGs, tgsL, wipeD, startD, List.map_cons, List.map_nil, List.length_cons, List.length_nil, List.replicate, List.cons_append, List.nil_append, List.append_nil, List.set_cons_zero, List.set_cons_succ, List.set_nil, getv0, getvS, truR_bl, asI_i, asB_b, asS_s, asT_t, optI_0, optI_1, opt_some, ixR_tup, ixR_lst, ixR_set, ixR_str, asQ_tup, asQ_lst, asQ_set, asL_lst, asL_set, asC_set, lenR_tup, lenR_lst, lenR_str, lenR_set, atI0, atI1, atI2, ixN0, ixN2, lv_lst, lv_set, seq_lst, seq_tup, seq_str, bop_ai, bop_as, bop_al, bop_si, bop_mi, bop_ms, bop_mb, bop_mo, bop_fd, bop_pw, cmp_lti, cmp_lei, cmp_gti, cmp_gei, cmp_eqi, cmp_nei, cmp_eqs, cmp_nes, cmp_isin, cmp_nin, in_sign, in_tup, bm_app, bm_pop, bm_clear, bm_join, bm_split, bm_ends, bmT_app, bmT_pop, bmT_clear, bmT_join, bmT_split, bmT_ends, newL_f, newL_t, DL.bi_len, DL.bi_all, DL.bi_any, DL.bi_abs, DL.bi_max, DL.bi_min, DL.bi_inti, DL.bi_intb, DL.bi_str, DL.bi_repr, DL.bi_sorted, DL.bi_list, tr_non, tr_bl, tr_int, tr_str, tr_tup, tr_lst, DL.sl_str, DL.sl_lst, En.set_set, if_true, if_false, ite_true, ite_false, Bool.false_eq_true, Nat.zero_lt_succ, true_and, decide_true, decide_false, Bool.not_true, Bool.not_false, List.length_map, asBls_one, all_one, ec, cut_m1]
  rw [decide_eq_true (show (2 : Int) < ((z.od.length + 1 + 1 + 1 : Nat) : Int) by omega)]
  rw [decide_eq_true (show [58] <:+ TL.numL z.rm ++ [58] from ⟨_, rfl⟩)]
  simp only [wSs, wS, wE, wA, wT, wB, wI, wG, wGs, tgsL, wipeD, startD, List.map_cons, List.map_nil, List.length_cons, List.length_nil, List.replicate, List.cons_append, List.nil_append, List.append_nil, List.set_cons_zero, List.set_cons_succ, List.set_nil, getv0, getvS, truR_bl, asI_i, asB_b, asS_s, asT_t, optI_0, optI_1, opt_some, ixR_tup, ixR_lst, ixR_set, ixR_str, asQ_tup, asQ_lst, asQ_set, asL_lst, asL_set, asC_set, lenR_tup, lenR_lst, lenR_str, lenR_set, atI0, atI1, atI2, ixN0, ixN2, lv_lst, lv_set, seq_lst, seq_tup, seq_str, bop_ai, bop_as, bop_al, bop_si, bop_mi, bop_ms, bop_mb, bop_mo, bop_fd, bop_pw, cmp_lti, cmp_lei, cmp_gti, cmp_gei, cmp_eqi, cmp_nei, cmp_eqs, cmp_nes, cmp_isin, cmp_nin, in_sign, in_tup, bm_app, bm_pop, bm_clear, bm_join, bm_split, bm_ends, bmT_app, bmT_pop, bmT_clear, bmT_join, bmT_split, bmT_ends, newL_f, newL_t, DL.bi_len, DL.bi_all, DL.bi_any, DL.bi_abs, DL.bi_max, DL.bi_min, DL.bi_inti, DL.bi_intb, DL.bi_str, DL.bi_repr, DL.bi_sorted, DL.bi_list, tr_non, tr_bl, tr_int, tr_str, tr_tup, tr_lst, DL.sl_str, DL.sl_lst, En.set_set, if_true, if_false, ite_true, ite_false, Bool.false_eq_true, Nat.zero_lt_succ, true_and, decide_true, decide_false, Bool.not_true, Bool.not_false, List.length_map, asBls_one, all_one]
  refine ⟨by decide, need_spec ?_⟩
  try simp only [wSs, wS, wE, wA, wT, wB, wI, wG, wGs, tgsL, wipeD, startD, List.map_cons, List.map_nil, List.length_cons, List.length_nil, List.replicate, List.cons_append, List.nil_append, List.append_nil, List.set_cons_zero, List.set_cons_succ, List.set_nil, getv0, getvS, truR_bl, asI_i, asB_b, asS_s, asT_t, optI_0, optI_1, opt_some, ixR_tup, ixR_lst, ixR_set, ixR_str, asQ_tup, asQ_lst, asQ_set, asL_lst, asL_set, asC_set, lenR_tup, lenR_lst, lenR_str, lenR_set, atI0, atI1, atI2, ixN0, ixN2, lv_lst, lv_set, seq_lst, seq_tup, seq_str, bop_ai, bop_as, bop_al, bop_si, bop_mi, bop_ms, bop_mb, bop_mo, bop_fd, bop_pw, cmp_lti, cmp_lei, cmp_gti, cmp_gei, cmp_eqi, cmp_nei, cmp_eqs, cmp_nes, cmp_isin, cmp_nin, in_sign, in_tup, bm_app, bm_pop, bm_clear, bm_join, bm_split, bm_ends, bmT_app, bmT_pop, bmT_clear, bmT_join, bmT_split, bmT_ends, newL_f, newL_t, DL.bi_len, DL.bi_all, DL.bi_any, DL.bi_abs, DL.bi_max, DL.bi_min, DL.bi_inti, DL.bi_intb, DL.bi_str, DL.bi_repr, DL.bi_sorted, DL.bi_list, tr_non, tr_bl, tr_int, tr_str, tr_tup, tr_lst, DL.sl_str, DL.sl_lst, En.set_set, if_true, if_false, ite_true, ite_false, Bool.false_eq_true, Nat.zero_lt_succ, true_and, decide_true, decide_false, Bool.not_true, Bool.not_false, List.length_map, asBls_one, all_one, ec, cut_m1]
  refine ⟨by simp; omega, ?_⟩
  refine numin_spec hk.rm ?_
  try simp only [wSs, wS, wE, wA, wT, wB, wI, wG, wGs, tgsL, wipeD, startD, List.map_cons, List.map_nil, List.length_cons, List.length_nil, List.replicate, List.cons_append, List.nil_append, List.append_nil, List.set_cons_zero, List.set_cons_succ, List.set_nil, getv0, getvS, truR_bl, asI_i, asB_b, asS_s, asT_t, optI_0, optI_1, opt_some, ixR_tup, ixR_lst, ixR_set, ixR_str, asQ_tup, asQ_lst, asQ_set, asL_lst, asL_set, asC_set, lenR_tup, lenR_lst, lenR_str, lenR_set, atI0, atI1, atI2, ixN0, ixN2, lv_lst, lv_set, seq_lst, seq_tup, seq_str, bop_ai, bop_as, bop_al, bop_si, bop_mi, bop_ms, bop_mb, bop_mo, bop_fd, bop_pw, cmp_lti, cmp_lei, cmp_gti, cmp_gei, cmp_eqi, cmp_nei, cmp_eqs, cmp_nes, cmp_isin, cmp_nin, in_sign, in_tup, bm_app, bm_pop, bm_clear, bm_join, bm_split, bm_ends, bmT_app, bmT_pop, bmT_clear, bmT_join, bmT_split, bmT_ends, newL_f, newL_t, DL.bi_len, DL.bi_all, DL.bi_any, DL.bi_abs, DL.bi_max, DL.bi_min, DL.bi_inti, DL.bi_intb, DL.bi_str, DL.bi_repr, DL.bi_sorted, DL.bi_list, tr_non, tr_bl, tr_int, tr_str, tr_tup, tr_lst, DL.sl_str, DL.sl_lst, En.set_set, if_true, if_false, ite_true, ite_false, Bool.false_eq_true, Nat.zero_lt_succ, true_and, decide_true, decide_false, Bool.not_true, Bool.not_false, List.length_map, asBls_one, all_one, ec, cut_m1]
  exact ⟨by omega, fun p hp => ⟨by omega, ex_le (h p hp)⟩⟩
theorem guestin_spec {k : Nat} {E : En} {z : Guest} {q : QE} {x : Nat → En → Prop} (h : q (gD z) E) : CL (k + 2) i_guest_in [.lst ((wordsG z).map .str)] E q x := by
  refine wC_go (fn := ⟨1, 1, b12⟩) rfl rfl ?_
  simp only [b12]
  unfold gD at h
  cases hw : z.ws with
  | true =>
    rw [hw] at h
    have e0 : (wordsG z).map D.str = [D.str wGuest, D.str z.nm, D.str wWishes] := by
      unfold wordsG
      rw [hw]
      rfl
    rw [e0]
    simp only [wSs, wS, wE, wA, wT, wB, wI, wG, wGs, tgsL, wipeD, startD, List.map_cons, List.map_nil, List.length_cons, List.length_nil, List.replicate, List.cons_append, List.nil_append, List.append_nil, List.set_cons_zero, List.set_cons_succ, List.set_nil, getv0, getvS, truR_bl, asI_i, asB_b, asS_s, asT_t, optI_0, optI_1, opt_some, ixR_tup, ixR_lst, ixR_set, ixR_str, asQ_tup, asQ_lst, asQ_set, asL_lst, asL_set, asC_set, lenR_tup, lenR_lst, lenR_str, lenR_set, atI0, atI1, atI2, ixN0, ixN2, lv_lst, lv_set, seq_lst, seq_tup, seq_str, bop_ai, bop_as, bop_al, bop_si, bop_mi, bop_ms, bop_mb, bop_mo, bop_fd, bop_pw, cmp_lti, cmp_lei, cmp_gti, cmp_gei, cmp_eqi, cmp_nei, cmp_eqs, cmp_nes, cmp_isin, cmp_nin, in_sign, in_tup, bm_app, bm_pop, bm_clear, bm_join, bm_split, bm_ends, bmT_app, bmT_pop, bmT_clear, bmT_join, bmT_split, bmT_ends, newL_f, newL_t, DL.bi_len, DL.bi_all, DL.bi_any, DL.bi_abs, DL.bi_max, DL.bi_min, DL.bi_inti, DL.bi_intb, DL.bi_str, DL.bi_repr, DL.bi_sorted, DL.bi_list, tr_non, tr_bl, tr_int, tr_str, tr_tup, tr_lst, DL.sl_str, DL.sl_lst, En.set_set, if_true, if_false, ite_true, ite_false, Bool.false_eq_true, Nat.zero_lt_succ, true_and, decide_true, decide_false, Bool.not_true, Bool.not_false, List.length_map, asBls_one, all_one, g6]
    have e2 : (((0 + 1 + 1 + 1 : Nat) : Int) == 2) = false := rfl
    have e3 : (((0 + 1 + 1 + 1 : Nat) : Int) == 3) = true := rfl
    have e4 : (wWishes == wWishes) = true := by decide
    rw [e2, e3]
    simp only [wSs, wS, wE, wA, wT, wB, wI, wG, wGs, tgsL, wipeD, startD, List.map_cons, List.map_nil, List.length_cons, List.length_nil, List.replicate, List.cons_append, List.nil_append, List.append_nil, List.set_cons_zero, List.set_cons_succ, List.set_nil, getv0, getvS, truR_bl, asI_i, asB_b, asS_s, asT_t, optI_0, optI_1, opt_some, ixR_tup, ixR_lst, ixR_set, ixR_str, asQ_tup, asQ_lst, asQ_set, asL_lst, asL_set, asC_set, lenR_tup, lenR_lst, lenR_str, lenR_set, atI0, atI1, atI2, ixN0, ixN2, lv_lst, lv_set, seq_lst, seq_tup, seq_str, bop_ai, bop_as, bop_al, bop_si, bop_mi, bop_ms, bop_mb, bop_mo, bop_fd, bop_pw, cmp_lti, cmp_lei, cmp_gti, cmp_gei, cmp_eqi, cmp_nei, cmp_eqs, cmp_nes, cmp_isin, cmp_nin, in_sign, in_tup, bm_app, bm_pop, bm_clear, bm_join, bm_split, bm_ends, bmT_app, bmT_pop, bmT_clear, bmT_join, bmT_split, bmT_ends, newL_f, newL_t, DL.bi_len, DL.bi_all, DL.bi_any, DL.bi_abs, DL.bi_max, DL.bi_min, DL.bi_inti, DL.bi_intb, DL.bi_str, DL.bi_repr, DL.bi_sorted, DL.bi_list, tr_non, tr_bl, tr_int, tr_str, tr_tup, tr_lst, DL.sl_str, DL.sl_lst, En.set_set, if_true, if_false, ite_true, ite_false, Bool.false_eq_true, Nat.zero_lt_succ, true_and, decide_true, decide_false, Bool.not_true, Bool.not_false, List.length_map, asBls_one, all_one, e4]
    refine need_spec ?_
    try simp only [wSs, wS, wE, wA, wT, wB, wI, wG, wGs, tgsL, wipeD, startD, List.map_cons, List.map_nil, List.length_cons, List.length_nil, List.replicate, List.cons_append, List.nil_append, List.append_nil, List.set_cons_zero, List.set_cons_succ, List.set_nil, getv0, getvS, truR_bl, asI_i, asB_b, asS_s, asT_t, optI_0, optI_1, opt_some, ixR_tup, ixR_lst, ixR_set, ixR_str, asQ_tup, asQ_lst, asQ_set, asL_lst, asL_set, asC_set, lenR_tup, lenR_lst, lenR_str, lenR_set, atI0, atI1, atI2, ixN0, ixN2, lv_lst, lv_set, seq_lst, seq_tup, seq_str, bop_ai, bop_as, bop_al, bop_si, bop_mi, bop_ms, bop_mb, bop_mo, bop_fd, bop_pw, cmp_lti, cmp_lei, cmp_gti, cmp_gei, cmp_eqi, cmp_nei, cmp_eqs, cmp_nes, cmp_isin, cmp_nin, in_sign, in_tup, bm_app, bm_pop, bm_clear, bm_join, bm_split, bm_ends, bmT_app, bmT_pop, bmT_clear, bmT_join, bmT_split, bmT_ends, newL_f, newL_t, DL.bi_len, DL.bi_all, DL.bi_any, DL.bi_abs, DL.bi_max, DL.bi_min, DL.bi_inti, DL.bi_intb, DL.bi_str, DL.bi_repr, DL.bi_sorted, DL.bi_list, tr_non, tr_bl, tr_int, tr_str, tr_tup, tr_lst, DL.sl_str, DL.sl_lst, En.set_set, if_true, if_false, ite_true, ite_false, Bool.false_eq_true, Nat.zero_lt_succ, true_and, decide_true, decide_false, Bool.not_true, Bool.not_false, List.length_map, asBls_one, all_one]
    exact ⟨by omega, ex_le h⟩
  | false =>
    rw [hw] at h
    have e0 : (wordsG z).map D.str = [D.str wGuest, D.str z.nm] := by
      unfold wordsG
      rw [hw]
      rfl
    rw [e0]
    simp only [wSs, wS, wE, wA, wT, wB, wI, wG, wGs, tgsL, wipeD, startD, List.map_cons, List.map_nil, List.length_cons, List.length_nil, List.replicate, List.cons_append, List.nil_append, List.append_nil, List.set_cons_zero, List.set_cons_succ, List.set_nil, getv0, getvS, truR_bl, asI_i, asB_b, asS_s, asT_t, optI_0, optI_1, opt_some, ixR_tup, ixR_lst, ixR_set, ixR_str, asQ_tup, asQ_lst, asQ_set, asL_lst, asL_set, asC_set, lenR_tup, lenR_lst, lenR_str, lenR_set, atI0, atI1, atI2, ixN0, ixN2, lv_lst, lv_set, seq_lst, seq_tup, seq_str, bop_ai, bop_as, bop_al, bop_si, bop_mi, bop_ms, bop_mb, bop_mo, bop_fd, bop_pw, cmp_lti, cmp_lei, cmp_gti, cmp_gei, cmp_eqi, cmp_nei, cmp_eqs, cmp_nes, cmp_isin, cmp_nin, in_sign, in_tup, bm_app, bm_pop, bm_clear, bm_join, bm_split, bm_ends, bmT_app, bmT_pop, bmT_clear, bmT_join, bmT_split, bmT_ends, newL_f, newL_t, DL.bi_len, DL.bi_all, DL.bi_any, DL.bi_abs, DL.bi_max, DL.bi_min, DL.bi_inti, DL.bi_intb, DL.bi_str, DL.bi_repr, DL.bi_sorted, DL.bi_list, tr_non, tr_bl, tr_int, tr_str, tr_tup, tr_lst, DL.sl_str, DL.sl_lst, En.set_set, if_true, if_false, ite_true, ite_false, Bool.false_eq_true, Nat.zero_lt_succ, true_and, decide_true, decide_false, Bool.not_true, Bool.not_false, List.length_map, asBls_one, all_one, g6]
    have e2 : (((0 + 1 + 1 : Nat) : Int) == 2) = true := rfl
    have e3 : (((0 + 1 + 1 : Nat) : Int) == 3) = false := rfl
    rw [e2, e3]
    simp only [wSs, wS, wE, wA, wT, wB, wI, wG, wGs, tgsL, wipeD, startD, List.map_cons, List.map_nil, List.length_cons, List.length_nil, List.replicate, List.cons_append, List.nil_append, List.append_nil, List.set_cons_zero, List.set_cons_succ, List.set_nil, getv0, getvS, truR_bl, asI_i, asB_b, asS_s, asT_t, optI_0, optI_1, opt_some, ixR_tup, ixR_lst, ixR_set, ixR_str, asQ_tup, asQ_lst, asQ_set, asL_lst, asL_set, asC_set, lenR_tup, lenR_lst, lenR_str, lenR_set, atI0, atI1, atI2, ixN0, ixN2, lv_lst, lv_set, seq_lst, seq_tup, seq_str, bop_ai, bop_as, bop_al, bop_si, bop_mi, bop_ms, bop_mb, bop_mo, bop_fd, bop_pw, cmp_lti, cmp_lei, cmp_gti, cmp_gei, cmp_eqi, cmp_nei, cmp_eqs, cmp_nes, cmp_isin, cmp_nin, in_sign, in_tup, bm_app, bm_pop, bm_clear, bm_join, bm_split, bm_ends, bmT_app, bmT_pop, bmT_clear, bmT_join, bmT_split, bmT_ends, newL_f, newL_t, DL.bi_len, DL.bi_all, DL.bi_any, DL.bi_abs, DL.bi_max, DL.bi_min, DL.bi_inti, DL.bi_intb, DL.bi_str, DL.bi_repr, DL.bi_sorted, DL.bi_list, tr_non, tr_bl, tr_int, tr_str, tr_tup, tr_lst, DL.sl_str, DL.sl_lst, En.set_set, if_true, if_false, ite_true, ite_false, Bool.false_eq_true, Nat.zero_lt_succ, true_and, decide_true, decide_false, Bool.not_true, Bool.not_false, List.length_map, asBls_one, all_one]
    refine need_spec ?_
    try simp only [wSs, wS, wE, wA, wT, wB, wI, wG, wGs, tgsL, wipeD, startD, List.map_cons, List.map_nil, List.length_cons, List.length_nil, List.replicate, List.cons_append, List.nil_append, List.append_nil, List.set_cons_zero, List.set_cons_succ, List.set_nil, getv0, getvS, truR_bl, asI_i, asB_b, asS_s, asT_t, optI_0, optI_1, opt_some, ixR_tup, ixR_lst, ixR_set, ixR_str, asQ_tup, asQ_lst, asQ_set, asL_lst, asL_set, asC_set, lenR_tup, lenR_lst, lenR_str, lenR_set, atI0, atI1, atI2, ixN0, ixN2, lv_lst, lv_set, seq_lst, seq_tup, seq_str, bop_ai, bop_as, bop_al, bop_si, bop_mi, bop_ms, bop_mb, bop_mo, bop_fd, bop_pw, cmp_lti, cmp_lei, cmp_gti, cmp_gei, cmp_eqi, cmp_nei, cmp_eqs, cmp_nes, cmp_isin, cmp_nin, in_sign, in_tup, bm_app, bm_pop, bm_clear, bm_join, bm_split, bm_ends, bmT_app, bmT_pop, bmT_clear, bmT_join, bmT_split, bmT_ends, newL_f, newL_t, DL.bi_len, DL.bi_all, DL.bi_any, DL.bi_abs, DL.bi_max, DL.bi_min, DL.bi_inti, DL.bi_intb, DL.bi_str, DL.bi_repr, DL.bi_sorted, DL.bi_list, tr_non, tr_bl, tr_int, tr_str, tr_tup, tr_lst, DL.sl_str, DL.sl_lst, En.set_set, if_true, if_false, ite_true, ite_false, Bool.false_eq_true, Nat.zero_lt_succ, true_and, decide_true, decide_false, Bool.not_true, Bool.not_false, List.length_map, asBls_one, all_one]
    exact ⟨by omega, ex_le h⟩
end KX

set_option Elab.async false
set_option linter.all false
set_option maxRecDepth 100000
set_option maxHeartbeats 4000000
namespace KX
open PySem L2 DL
/-! # the rows of a text -/
def wordsS : House ⊕ Guest → List (List Nat)
  | .inl h => wordsH h
  | .inr g => wordsG g
def rowS (z : House ⊕ Guest) : List Nat := TL.joinL [32] (wordsS z)
def itemsW (hs : List House) (gs : List Guest) : List (House ⊕ Guest) := (srt House.nm hs).map .inl ++ (srt Guest.nm gs).map .inr
theorem rowsW_items (hs : List House) (gs : List Guest) : rowsW hs gs = (itemsW hs gs).map rowS := by
  unfold rowsW itemsW
  rw [List.map_append, List.map_map, List.map_map]
  rfl
def okS : House ⊕ Guest → Prop
  | .inl h => HK h
  | .inr g => goodB g.nm = true
theorem itemsW_ok {hs : List House} {gs : List Guest} (w : WOk hs gs) : ∀ z ∈ itemsW hs gs, okS z := by
  intro z hz
  rcases List.mem_append.mp hz with hz | hz
  · obtain ⟨y, hy, rfl⟩ := List.mem_map.mp hz
    exact w.hk y (srt_mem.mp hy)
  · obtain ⟨y, hy, rfl⟩ := List.mem_map.mp hz
    exact w.gg y (srt_mem.mp hy)
theorem good_free {x : List Nat} (h : goodB x = true) : 32 ∉ x ∧ 10 ∉ x := by
  have := (goodB_iff h).2.2
  exact ⟨fun z => absurd (this _ z) (by decide), fun z => absurd (this _ z) (by decide)⟩
theorem words_free {z : House ⊕ Guest} (h : okS z) : ∀ y ∈ wordsS z, 32 ∉ y ∧ 10 ∉ y := by
  intro y hy
  cases z with
  | inl z =>
    have h : HK z := h
    rcases List.mem_append.mp hy with hy | hy
    · rcases List.mem_cons.mp hy with rfl | hy
      · decide
      rcases List.mem_cons.mp hy with rfl | hy
      · exact good_free h.nm
      rw [List.mem_singleton.mp hy]
      refine ⟨fun q => ?_, fun q => ?_⟩
      · rcases List.mem_append.mp q with q | q
        · exact TL.numL_free (by omega) q
        · exact absurd q (by decide)
      · rcases List.mem_append.mp q with q | q
        · exact TL.numL_free (by omega) q
        · exact absurd q (by decide)
    · exact good_free (h.od y hy)
  | inr z =>
    have h : goodB z.nm = true := h
    rcases List.mem_append.mp hy with hy | hy
    · rcases List.mem_cons.mp hy with rfl | hy
      · decide
      rw [List.mem_singleton.mp hy]
      exact good_free h
    · split at hy
      · rw [List.mem_singleton.mp hy]; decide
      · cases hy
theorem spl_row {z : House ⊕ Guest} (h : okS z) : TL.spl [32] 0 [] (rowS z) = wordsS z := by
  refine TL.spl_join ?_ fun y hy => (words_free h y hy).1
  cases z <;> (intro q; cases q)
theorem mem_join {c s : Nat} {l : List (List Nat)} (h : c ∈ TL.joinL [s] l) : c = s ∨ ∃ y ∈ l, c ∈ y := by
  cases l with
  | nil => cases h
  | cons a l =>
    rw [joinL_fm] at h
    rcases List.mem_append.mp h with h | h
    · exact .inr ⟨a, List.mem_cons_self, h⟩
    · obtain ⟨y, hy, hc⟩ := List.mem_flatMap.mp h
      rcases List.mem_cons.mp hc with h | h
      · exact .inl h
      · exact .inr ⟨y, List.mem_cons_of_mem _ hy, h⟩
theorem row_free {z : House ⊕ Guest} (h : okS z) : 10 ∉ rowS z := by
  intro q
  rcases mem_join q with q | ⟨y, hy, q⟩
  · cases q
  · exact (words_free h y hy).2 q
theorem row_len {z : House ⊕ Guest} (h : okS z) : (rowS z).length ≤ 600 := by
  cases z with
  | inl z => exact rowH_len h
  | inr z => exact rowG_len h
theorem words_n {z : House ⊕ Guest} (h : okS z) : (wordsS z).length ≤ 53 := by
  cases z with
  | inl z => exact wordsH_n h
  | inr z => exact Nat.le_trans wordsG_n (by decide)
theorem row_ne (z : House ⊕ Guest) : rowS z ≠ [] := by
  cases z with
  | inl z =>
    intro q
    have q : TL.joinL [32] (wHouse :: (z.nm :: (TL.numL z.rm ++ [58]) :: z.od)) = [] := q
    rw [joinL_fm] at q
    cases q
  | inr z =>
    intro q
    have q : TL.joinL [32] (wGuest :: (z.nm :: (if z.ws = true then [wWishes] else []))) = [] := q
    rw [joinL_fm] at q
    cases q
theorem text_ne {z : House ⊕ Guest} {l : List (House ⊕ Guest)} : TL.joinL [10] ((z :: l).map rowS) ≠ [] := by
  rw [List.map_cons, joinL_fm]
  intro q
  exact row_ne z (List.append_eq_nil_iff.mp q).1
theorem spl_text {l : List (House ⊕ Guest)} (hne : l ≠ []) (h : ∀ z ∈ l, okS z) : TL.spl [10] 0 [] (TL.joinL [10] (l.map rowS)) = l.map rowS := by
  refine TL.spl_join (fun q => hne (List.map_eq_nil_iff.mp q)) fun y hy => ?_
  obtain ⟨z, hz, rfl⟩ := List.mem_map.mp hy
  exact row_free (h z hz)
/-- the words of a row -/
def wD1 (z : House ⊕ Guest) : D := .lst ((wordsS z).map .str)
theorem housesR {k : Nat} {o0 o1 o2 o3 o5 : Option D} : ∀ (l : List (House ⊕ Guest)) (E : En) (o4 : Option D) (q : List D → En → Prop), (∀ z ∈ l, okS z) →
    (∀ (zs : List (House × D)) E', zs.map (·.1) = l.filterMap Sum.getLeft? → E.le E' → (∀ z ∈ zs, ∃ a, z.2 = .ref a ∧ E a = none ∧ E' a = some (.lst (z.1.od.map .str))) → q (zs.map hO) E') →
    wLc (fun d s' E' k => 4 < List.length s' ∧ k (List.set s' 4 (some d)) E') (fun s' E' q' => wB pg.G (wC pg.G pg.F (k + 3)) t13_2 s' E' q' noX) (fun s' E' q' => wE pg.G (wC pg.G pg.F (k + 3)) c13_2 s' E' q' noX) (fun _ => True)
      [o0, o1, o2, o3, o4, o5] (l.map wD1) E q
  | [], E, o4, q, hl, h => ⟨trivial, h [] E rfl (En.le_refl _) fun z hz => nomatch hz⟩
  | z :: l, E, o4, q, hl, h => by
    rw [List.map_cons]
    refine ⟨trivial, (by (try simp only [List.length_cons, List.length_nil]); omega), ?_⟩
    have hz := hl z List.mem_cons_self
    have hl' : ∀ y ∈ l, okS y := fun y hy => hl y (List.mem_cons_of_mem _ hy)
    simp only [t13_2, c13_2]
    unfold wD1
    cases z with
    | inl z =>
      have e0 : (wordsS (.inl z)).map D.str = D.str wHouse :: D.str z.nm :: D.str (TL.numL z.rm ++ [58]) :: z.od.map D.str := rfl
      have e1 : (wHouse == wHouse) = true := by decide
      rw [e0]
      simp only [wSs, wS, wE, wA, wT, wB, wI, wG, wGs, tgsL, wipeD, startD, List.map_cons, List.map_nil, List.length_cons, List.length_nil, List.replicate, List.cons_append, List.nil_append, List.append_nil, List.set_cons_zero, List.set_cons_succ, List.set_nil, getv0, getvS, truR_bl, asI_i, asB_b, asS_s, asT_t, optI_0, optI_1, opt_some, ixR_tup, ixR_lst, ixR_set, ixR_str, asQ_tup, asQ_lst, asQ_set, asL_lst, asL_set, asC_set, lenR_tup, lenR_lst, lenR_str, lenR_set, atI0, atI1, atI2, ixN0, ixN2, lv_lst, lv_set, seq_lst, seq_tup, seq_str, bop_ai, bop_as, bop_al, bop_si, bop_mi, bop_ms, bop_mb, bop_mo, bop_fd, bop_pw, cmp_lti, cmp_lei, cmp_gti, cmp_gei, cmp_eqi, cmp_nei, cmp_eqs, cmp_nes, cmp_isin, cmp_nin, in_sign, in_tup, bm_app, bm_pop, bm_clear, bm_join, bm_split, bm_ends, bmT_app, bmT_pop, bmT_clear, bmT_join, bmT_split, bmT_ends, newL_f, newL_t, DL.bi_len, DL.bi_all, DL.bi_any, DL.bi_abs, DL.bi_max, DL.bi_min, DL.bi_inti, DL.bi_intb, DL.bi_str, DL.bi_repr, DL.bi_sorted, DL.bi_list, tr_non, tr_bl, tr_int, tr_str, tr_tup, tr_lst, DL.sl_str, DL.sl_lst, En.set_set, if_true, if_false, ite_true, ite_false, Bool.false_eq_true, Nat.zero_lt_succ, true_and, decide_true, decide_false, Bool.not_true, Bool.not_false, List.length_map, asBls_one, all_one, g4, e1]
      refine housein_spec (z := z) hz fun p hp => ?_
      refine housesR (k := k) l _ _ _ hl' fun zs E' h1 h2 h3 => ?_
      have hq := h ((z, .ref p) :: zs) E' (by rw [List.map_cons, h1]; rfl) (fun a c e => h2 a c (by
        rw [En.set_ne _ _ (fun q => by subst q; rw [hp] at e; cases e)]
        exact e)) fun y hy => by
          rcases List.mem_cons.mp hy with rfl | hy
          · exact ⟨p, rfl, hp, h2 p _ (En.set_same _ _ _)⟩
          · obtain ⟨a, e1, e2, e3⟩ := h3 y hy
            refine ⟨a, e1, ?_, e3⟩
            by_cases q : a = p
            · subst q; exact hp
            · rwa [En.set_ne _ _ q] at e2
      exact hq
    | inr z =>
      have e0 : (wordsS (.inr z)).map D.str = D.str wGuest :: D.str z.nm :: (if z.ws = true then [wWishes] else []).map D.str := rfl
      have e1 : (wGuest == wHouse) = false := by decide
      rw [e0]
      simp only [wSs, wS, wE, wA, wT, wB, wI, wG, wGs, tgsL, wipeD, startD, List.map_cons, List.map_nil, List.length_cons, List.length_nil, List.replicate, List.cons_append, List.nil_append, List.append_nil, List.set_cons_zero, List.set_cons_succ, List.set_nil, getv0, getvS, truR_bl, asI_i, asB_b, asS_s, asT_t, optI_0, optI_1, opt_some, ixR_tup, ixR_lst, ixR_set, ixR_str, asQ_tup, asQ_lst, asQ_set, asL_lst, asL_set, asC_set, lenR_tup, lenR_lst, lenR_str, lenR_set, atI0, atI1, atI2, ixN0, ixN2, lv_lst, lv_set, seq_lst, seq_tup, seq_str, bop_ai, bop_as, bop_al, bop_si, bop_mi, bop_ms, bop_mb, bop_mo, bop_fd, bop_pw, cmp_lti, cmp_lei, cmp_gti, cmp_gei, cmp_eqi, cmp_nei, cmp_eqs, cmp_nes, cmp_isin, cmp_nin, in_sign, in_tup, bm_app, bm_pop, bm_clear, bm_join, bm_split, bm_ends, bmT_app, bmT_pop, bmT_clear, bmT_join, bmT_split, bmT_ends, newL_f, newL_t, DL.bi_len, DL.bi_all, DL.bi_any, DL.bi_abs, DL.bi_max, DL.bi_min, DL.bi_inti, DL.bi_intb, DL.bi_str, DL.bi_repr, DL.bi_sorted, DL.bi_list, tr_non, tr_bl, tr_int, tr_str, tr_tup, tr_lst, DL.sl_str, DL.sl_lst, En.set_set, if_true, if_false, ite_true, ite_false, Bool.false_eq_true, Nat.zero_lt_succ, true_and, decide_true, decide_false, Bool.not_true, Bool.not_false, List.length_map, asBls_one, all_one, g4, e1]
      refine housesR (k := k) l _ _ _ hl' fun zs E' h1 h2 h3 => ?_
      exact h zs E' (by rw [h1]; rfl) h2 h3
theorem srt_idem {α : Type} {key : α → List Nat} {l : List α} (hn : (l.map key).Nodup) : srt key (srt key l) = srt key l :=
  srt_uniq (srt_perm key _) (srt_pw _ _) (srt_pw _ _) (((((srt_perm key _).trans (srt_perm key l)).map key).nodup_iff).mpr hn)
theorem textW_srt {hs : List House} {gs : List Guest} (w : WOk hs gs) : textW (srt House.nm hs) (srt Guest.nm gs) = textW hs gs := by
  unfold textW rowsW
  rw [srt_idem w.tk.hn, srt_idem w.tk.gn]
theorem WOk.perm {hs hs' : List House} {gs gs' : List Guest} (w : WOk hs gs) (h : hs'.Perm hs) (g : gs'.Perm gs) : WOk hs' gs' :=
  ⟨((((g.map _).append (h.map _)).nodup_iff)).mpr w.nd, fun z hz => w.gg z (g.mem_iff.mp hz), fun z hz => w.gh z (h.mem_iff.mp hz), fun z hz => w.rm z (h.mem_iff.mp hz), fun z hz => ⟨(w.od z (h.mem_iff.mp hz)).1, fun y hy => (g.map _).mem_iff.mpr ((w.od z (h.mem_iff.mp hz)).2 y hy)⟩, by rw [h.length_eq]; exact w.hn, by rw [g.length_eq]; exact w.gn⟩
theorem WOk.srt {hs : List House} {gs : List Guest} (w : WOk hs gs) : WOk (srt House.nm hs) (srt Guest.nm gs) := w.perm (srt_perm _ _) (srt_perm _ _)
theorem items_l (hs : List House) (gs : List Guest) : (itemsW hs gs).filterMap Sum.getLeft? = srt House.nm hs := by
  unfold itemsW
  rw [List.filterMap_append, List.filterMap_map, List.filterMap_map]
  have e1 : (Sum.getLeft? ∘ (Sum.inl : House → House ⊕ Guest)) = some := rfl
  have e2 : (Sum.getLeft? ∘ (Sum.inr : Guest → House ⊕ Guest)) = fun _ => none := rfl
  rw [e1, e2, List.filterMap_some, List.filterMap_eq_nil_iff.mpr (fun _ _ => rfl), List.append_nil]
theorem items_r (hs : List House) (gs : List Guest) : (itemsW hs gs).filterMap Sum.getRight? = srt Guest.nm gs := by
  unfold itemsW
  rw [List.filterMap_append, List.filterMap_map, List.filterMap_map]
  have e1 : (Sum.getRight? ∘ (Sum.inr : Guest → House ⊕ Guest)) = some := rfl
  have e2 : (Sum.getRight? ∘ (Sum.inl : House → House ⊕ Guest)) = fun _ => none := rfl
  rw [e1, e2, List.filterMap_some, List.filterMap_eq_nil_iff.mpr (fun _ _ => rfl), List.nil_append]
/-- what read_world gives -/
structure RD (E E' : En) (H G : Addr) (zs : List (House × D)) (hs : List House) (gs : List Guest) : Prop where
  ez0 : zs.map (·.1) = srt House.nm hs
  le : E.le E'
  nH : E H = none
  nG : E G = none
  ne : H ≠ G
  eH : E' H = some (.lst (zs.map hO))
  eG : E' G = some (.lst ((srt Guest.nm gs).map gD))
  ez : ∀ z ∈ zs, ∃ a, z.2 = .ref a ∧ E a = none ∧ a ≠ H ∧ a ≠ G ∧ E' a = some (.lst (z.1.od.map .str))
theorem RD.wd {E E' : En} {H G : Addr} {zs : List (House × D)} {hs : List House} {gs : List Guest} (r : RD E E' H G zs hs gs) : WD E' (.tup [.ref H, .ref G]) zs (srt Guest.nm gs) :=
  ⟨⟨_, _, rfl, lv_ref r.eH, lv_ref r.eG⟩, fun z hz => by
    obtain ⟨a, e, _, _, _, h⟩ := r.ez z hz
    rw [e]
    exact lv_ref h⟩
theorem g_isin {z : House ⊕ Guest} : ∃ w r, (wordsS z).map D.str = D.str w :: r ∧ ([D.str wHouse, D.str wGuest].any fun y => eqF y (.str w)) = true := by
  cases z with
  | inl z => exact ⟨wHouse, _, rfl, by decide⟩
  | inr z => exact ⟨wGuest, _, rfl, by decide⟩
theorem read_spec {k : Nat} {E : En} {hs : List House} {gs : List Guest} {q : QE} {x : Nat → En → Prop} (w : WOk hs gs)
    (h : ∀ H G zs E', RD E E' H G zs hs gs → q (.tup [.ref H, .ref G]) E') : CL (k + 6) i_read_world [.str (textW hs gs)] E q x := by
  refine wC_go (fn := ⟨1, 6, b13⟩) rfl rfl ?_
  simp only [b13]
  simp only [wSs, wS, wE, wA, wT, wB, wI, wG, wGs, tgsL, wipeD, startD, List.map_cons, List.map_nil, List.length_cons, List.length_nil, List.replicate, List.cons_append, List.nil_append, List.append_nil, List.set_cons_zero, List.set_cons_succ, List.set_nil, getv0, getvS, truR_bl, asI_i, asB_b, asS_s, asT_t, optI_0, optI_1, opt_some, ixR_tup, ixR_lst, ixR_set, ixR_str, asQ_tup, asQ_lst, asQ_set, asL_lst, asL_set, asC_set, lenR_tup, lenR_lst, lenR_str, lenR_set, atI0, atI1, atI2, ixN0, ixN2, lv_lst, lv_set, seq_lst, seq_tup, seq_str, bop_ai, bop_as, bop_al, bop_si, bop_mi, bop_ms, bop_mb, bop_mo, bop_fd, bop_pw, cmp_lti, cmp_lei, cmp_gti, cmp_gei, cmp_eqi, cmp_nei, cmp_eqs, cmp_nes, cmp_isin, cmp_nin, in_sign, in_tup, bm_app, bm_pop, bm_clear, bm_join, bm_split, bm_ends, bmT_app, bmT_pop, bmT_clear, bmT_join, bmT_split, bmT_ends, newL_f, newL_t, DL.bi_len, DL.bi_all, DL.bi_any, DL.bi_abs, DL.bi_max, DL.bi_min, DL.bi_inti, DL.bi_intb, DL.bi_str, DL.bi_repr, DL.bi_sorted, DL.bi_list, tr_non, tr_bl, tr_int, tr_str, tr_tup, tr_lst, DL.sl_str, DL.sl_lst, En.set_set, if_true, if_false, ite_true, ite_false, Bool.false_eq_true, Nat.zero_lt_succ, true_and, decide_true, decide_false, Bool.not_true, Bool.not_false, List.length_map, asBls_one, all_one]
  refine need_spec ?_
  try simp only [wSs, wS, wE, wA, wT, wB, wI, wG, wGs, tgsL, wipeD, startD, List.map_cons, List.map_nil, List.length_cons, List.length_nil, List.replicate, List.cons_append, List.nil_append, List.append_nil, List.set_cons_zero, List.set_cons_succ, List.set_nil, getv0, getvS, truR_bl, asI_i, asB_b, asS_s, asT_t, optI_0, optI_1, opt_some, ixR_tup, ixR_lst, ixR_set, ixR_str, asQ_tup, asQ_lst, asQ_set, asL_lst, asL_set, asC_set, lenR_tup, lenR_lst, lenR_str, lenR_set, atI0, atI1, atI2, ixN0, ixN2, lv_lst, lv_set, seq_lst, seq_tup, seq_str, bop_ai, bop_as, bop_al, bop_si, bop_mi, bop_ms, bop_mb, bop_mo, bop_fd, bop_pw, cmp_lti, cmp_lei, cmp_gti, cmp_gei, cmp_eqi, cmp_nei, cmp_eqs, cmp_nes, cmp_isin, cmp_nin, in_sign, in_tup, bm_app, bm_pop, bm_clear, bm_join, bm_split, bm_ends, bmT_app, bmT_pop, bmT_clear, bmT_join, bmT_split, bmT_ends, newL_f, newL_t, DL.bi_len, DL.bi_all, DL.bi_any, DL.bi_abs, DL.bi_max, DL.bi_min, DL.bi_inti, DL.bi_intb, DL.bi_str, DL.bi_repr, DL.bi_sorted, DL.bi_list, tr_non, tr_bl, tr_int, tr_str, tr_tup, tr_lst, DL.sl_str, DL.sl_lst, En.set_set, if_true, if_false, ite_true, ite_false, Bool.false_eq_true, Nat.zero_lt_succ, true_and, decide_true, decide_false, Bool.not_true, Bool.not_false, List.length_map, asBls_one, all_one]
  have hok := itemsW_ok w
  have hln : (itemsW hs gs).length ≤ 100 := by
    unfold itemsW
    rw [List.length_append, List.length_map, List.length_map, srt_len, srt_len]
    have := w.hn
    have := w.gn
    omega
  have htl := textW_len w
  have tail : ∀ ys, ys = (itemsW hs gs).map wD1 →
                  1 < 0 + 1 + 1 + 1 + 1 + 1 + 1 ∧
                  ys.length ≤ 16777216 ∧
                    wLc (fun d s' E' k => 4 < List.length s' ∧ k (List.set s' 4 (some d)) E') (fun s' E' k => k true E')
                      (fun s' E' k_1 => wE pg.G (wC pg.G pg.F (k + 5)) c13_1 s' E' k_1 noX) (fun x => True)
                      [some (D.str (textW hs gs)), some (D.lst ys), none, none, none, none] ys E fun ys_1 E2 =>
                      ys_1.length ≤ 16777216 ∧
                        opt (asBls ys_1) fun bs =>
                          wC pg.G pg.F (k + 5) 6 [D.bl (bs.all id)] E2
                            (fun x_1 E1 =>
                              ys.length ≤ 16777216 ∧
                                wLc (fun d s' E' k => 4 < List.length s' ∧ k (List.set s' 4 (some d)) E')
                                  (fun s' E' k_1 => wB pg.G (wC pg.G pg.F (k + 5)) t13_2 s' E' k_1 noX)
                                  (fun s' E' k_1 => wE pg.G (wC pg.G pg.F (k + 5)) c13_2 s' E' k_1 noX) (fun x => True)
                                  [some (D.str (textW hs gs)), some (D.lst ys), none, none, none, none] ys E1
                                  fun ys_2 E2 =>
                                  ys_2.length ≤ 16777216 ∧
                                    ∀ (p : Addr),
                                      E2 p = none →
                                        2 < 0 + 1 + 1 + 1 + 1 + 1 + 1 ∧
                                          ys.length ≤ 16777216 ∧
                                            wLc (fun d s' E' k => 4 < List.length s' ∧ k (List.set s' 4 (some d)) E')
                                              (fun s' E' k_1 => wB pg.G (wC pg.G pg.F (k + 5)) t13_3 s' E' k_1 noX)
                                              (fun s' E' k_1 => wE pg.G (wC pg.G pg.F (k + 5)) c13_3 s' E' k_1 noX)
                                              (fun x => True)
                                              [some (D.str (textW hs gs)), some (D.lst ys), some (D.ref p), none, none,
                                                none]
                                              ys (E2.set p (Cell.lst ys_2)) fun ys E2 =>
                                              ys.length ≤ 16777216 ∧
                                                ∀ (p_1 : Addr),
                                                  E2 p_1 = none →
                                                    3 < 0 + 1 + 1 + 1 + 1 + 1 + 1 ∧
                                                      0 + 1 + 1 ≤ 16777216 ∧
                                                        wC pg.G pg.F (k + 5) 5 [D.tup [D.ref p, D.ref p_1]]
                                                          (E2.set p_1 (Cell.lst ys))
                                                          (fun d E1 =>
                                                            asB d fun k_1 =>
                                                              if k_1 = true then
                                                                0 + 1 + 1 ≤ 16777216 ∧
                                                                  wC pg.G pg.F (k + 5) 10 [D.tup [D.ref p, D.ref p_1]]
                                                                    E1
                                                                    (fun d E1 =>
                                                                      cmpR Cop.eq E1 d (D.str (textW hs gs)) fun k_2 =>
                                                                        wC pg.G pg.F (k + 5) 6 [D.bl k_2] E1
                                                                          (fun x E1 =>
                                                                            0 + 1 + 1 ≤ 16777216 ∧
                                                                              ∃ E2,
                                                                                E2.le E1 ∧
                                                                                  q (D.tup [D.ref p, D.ref p_1]) E2)
                                                                          fun c E2 => ∃ E2_1, E2_1.le E2 ∧ x c E2_1)
                                                                    fun c E2 => ∃ E2_1, E2_1.le E2 ∧ x c E2_1
                                                              else
                                                                wC pg.G pg.F (k + 5) 6 [D.bl false] E1
                                                                  (fun x E1 =>
                                                                    0 + 1 + 1 ≤ 16777216 ∧
                                                                      ∃ E2,
                                                                        E2.le E1 ∧ q (D.tup [D.ref p, D.ref p_1]) E2)
                                                                  fun c E2 => ∃ E2_1, E2_1.le E2 ∧ x c E2_1)
                                                          fun c E2 => ∃ E2_1, E2_1.le E2 ∧ x c E2_1)
                            fun c E2 => ∃ E2_1, E2_1.le E2 ∧ x c E2_1 := by
    intro ys e
    subst e
    refine ⟨(by (try simp only [List.length_cons, List.length_nil]); omega), by rw [List.length_map]; omega, ?_⟩
    refine wLc_ml wD1 (fun _ => .bl true) trivial _ _ (fun z hz q1 q2 h1 => ?_) ?_
    · refine ⟨(by (try simp only [List.length_cons, List.length_nil]); omega), ?_⟩
      dsimp only
      rw [if_pos rfl]
      simp only [c13_1]
      obtain ⟨w0, r, e0, e1⟩ := g_isin (z := z)
      unfold wD1
      rw [e0]
      simp only [wSs, wS, wE, wA, wT, wB, wI, wG, wGs, tgsL, wipeD, startD, List.map_cons, List.map_nil, List.length_cons, List.length_nil, List.replicate, List.cons_append, List.nil_append, List.append_nil, List.set_cons_zero, List.set_cons_succ, List.set_nil, getv0, getvS, truR_bl, asI_i, asB_b, asS_s, asT_t, optI_0, optI_1, opt_some, ixR_tup, ixR_lst, ixR_set, ixR_str, asQ_tup, asQ_lst, asQ_set, asL_lst, asL_set, asC_set, lenR_tup, lenR_lst, lenR_str, lenR_set, atI0, atI1, atI2, ixN0, ixN2, lv_lst, lv_set, seq_lst, seq_tup, seq_str, bop_ai, bop_as, bop_al, bop_si, bop_mi, bop_ms, bop_mb, bop_mo, bop_fd, bop_pw, cmp_lti, cmp_lei, cmp_gti, cmp_gei, cmp_eqi, cmp_nei, cmp_eqs, cmp_nes, cmp_isin, cmp_nin, in_sign, in_tup, bm_app, bm_pop, bm_clear, bm_join, bm_split, bm_ends, bmT_app, bmT_pop, bmT_clear, bmT_join, bmT_split, bmT_ends, newL_f, newL_t, DL.bi_len, DL.bi_all, DL.bi_any, DL.bi_abs, DL.bi_max, DL.bi_min, DL.bi_inti, DL.bi_intb, DL.bi_str, DL.bi_repr, DL.bi_sorted, DL.bi_list, tr_non, tr_bl, tr_int, tr_str, tr_tup, tr_lst, DL.sl_str, DL.sl_lst, En.set_set, if_true, if_false, ite_true, ite_false, Bool.false_eq_true, Nat.zero_lt_succ, true_and, decide_true, decide_false, Bool.not_true, Bool.not_false, List.length_map, asBls_one, all_one, g4, g5, e1]
      exact ⟨by omega, rfl, rfl, h1⟩
    have ab : asBls ((itemsW hs gs).map fun _ => D.bl true) = some ((itemsW hs gs).map fun _ => true) := by
      have := asBls_map ((itemsW hs gs).map fun _ => true)
      rwa [List.map_map] at this
    have ao : (((itemsW hs gs).map fun _ => true).all id) = true := by simp
    rw [ab, opt_some, ao]
    refine ⟨by rw [List.length_map]; omega, need_spec ?_⟩
    refine ⟨by rw [List.length_map]; omega, ?_⟩
    refine housesR (k := k + 2) _ _ _ _ hok fun zs E1 h1 h2 h3 => ?_
    rw [items_l] at h1
    have hzl : zs.length = hs.length := by rw [← srt_len House.nm hs, ← h1, List.length_map]
    have h50 := w.hn
    have g50 := w.gn
    refine ⟨by rw [List.length_map]; omega, fun H hH => ⟨(by (try simp only [List.length_cons, List.length_nil]); omega), by rw [List.length_map]; omega, ?_⟩⟩
    refine wLc_fml wD1 (fun z => (Sum.getRight? z).map gD) trivial _ _ (fun z hz q1 q2 k1 k2 => ?_) ?_
    · refine ⟨(by (try simp only [List.length_cons, List.length_nil]); omega), ?_⟩
      simp only [t13_3, c13_3]
      unfold wD1
      cases z with
      | inl z =>
        have e0 : (wordsS (.inl z)).map D.str = D.str wHouse :: D.str z.nm :: D.str (TL.numL z.rm ++ [58]) :: z.od.map D.str := rfl
        have e1 : (wHouse == wGuest) = false := by decide
        rw [e0]
        simp only [wSs, wS, wE, wA, wT, wB, wI, wG, wGs, tgsL, wipeD, startD, List.map_cons, List.map_nil, List.length_cons, List.length_nil, List.replicate, List.cons_append, List.nil_append, List.append_nil, List.set_cons_zero, List.set_cons_succ, List.set_nil, getv0, getvS, truR_bl, asI_i, asB_b, asS_s, asT_t, optI_0, optI_1, opt_some, ixR_tup, ixR_lst, ixR_set, ixR_str, asQ_tup, asQ_lst, asQ_set, asL_lst, asL_set, asC_set, lenR_tup, lenR_lst, lenR_str, lenR_set, atI0, atI1, atI2, ixN0, ixN2, lv_lst, lv_set, seq_lst, seq_tup, seq_str, bop_ai, bop_as, bop_al, bop_si, bop_mi, bop_ms, bop_mb, bop_mo, bop_fd, bop_pw, cmp_lti, cmp_lei, cmp_gti, cmp_gei, cmp_eqi, cmp_nei, cmp_eqs, cmp_nes, cmp_isin, cmp_nin, in_sign, in_tup, bm_app, bm_pop, bm_clear, bm_join, bm_split, bm_ends, bmT_app, bmT_pop, bmT_clear, bmT_join, bmT_split, bmT_ends, newL_f, newL_t, DL.bi_len, DL.bi_all, DL.bi_any, DL.bi_abs, DL.bi_max, DL.bi_min, DL.bi_inti, DL.bi_intb, DL.bi_str, DL.bi_repr, DL.bi_sorted, DL.bi_list, tr_non, tr_bl, tr_int, tr_str, tr_tup, tr_lst, DL.sl_str, DL.sl_lst, En.set_set, if_true, if_false, ite_true, ite_false, Bool.false_eq_true, Nat.zero_lt_succ, true_and, decide_true, decide_false, Bool.not_true, Bool.not_false, List.length_map, asBls_one, all_one, g5, e1]
        exact k2 rfl
      | inr z =>
        have e0 : (wordsS (.inr z)).map D.str = D.str wGuest :: D.str z.nm :: (if z.ws = true then [wWishes] else []).map D.str := rfl
        have e1 : (wGuest == wGuest) = true := by decide
        rw [e0]
        simp only [wSs, wS, wE, wA, wT, wB, wI, wG, wGs, tgsL, wipeD, startD, List.map_cons, List.map_nil, List.length_cons, List.length_nil, List.replicate, List.cons_append, List.nil_append, List.append_nil, List.set_cons_zero, List.set_cons_succ, List.set_nil, getv0, getvS, truR_bl, asI_i, asB_b, asS_s, asT_t, optI_0, optI_1, opt_some, ixR_tup, ixR_lst, ixR_set, ixR_str, asQ_tup, asQ_lst, asQ_set, asL_lst, asL_set, asC_set, lenR_tup, lenR_lst, lenR_str, lenR_set, atI0, atI1, atI2, ixN0, ixN2, lv_lst, lv_set, seq_lst, seq_tup, seq_str, bop_ai, bop_as, bop_al, bop_si, bop_mi, bop_ms, bop_mb, bop_mo, bop_fd, bop_pw, cmp_lti, cmp_lei, cmp_gti, cmp_gei, cmp_eqi, cmp_nei, cmp_eqs, cmp_nes, cmp_isin, cmp_nin, in_sign, in_tup, bm_app, bm_pop, bm_clear, bm_join, bm_split, bm_ends, bmT_app, bmT_pop, bmT_clear, bmT_join, bmT_split, bmT_ends, newL_f, newL_t, DL.bi_len, DL.bi_all, DL.bi_any, DL.bi_abs, DL.bi_max, DL.bi_min, DL.bi_inti, DL.bi_intb, DL.bi_str, DL.bi_repr, DL.bi_sorted, DL.bi_list, tr_non, tr_bl, tr_int, tr_str, tr_tup, tr_lst, DL.sl_str, DL.sl_lst, En.set_set, if_true, if_false, ite_true, ite_false, Bool.false_eq_true, Nat.zero_lt_succ, true_and, decide_true, decide_false, Bool.not_true, Bool.not_false, List.length_map, asBls_one, all_one, g5, e1]
        exact guestin_spec (z := z) (k1 _ rfl)
    have er : (itemsW hs gs).filterMap (fun z => (Sum.getRight? z).map gD) = (srt Guest.nm gs).map gD := by
      rw [← items_r hs gs, List.map_filterMap]
    rw [er, List.length_map, srt_len]
    refine ⟨by omega, fun G hG => ⟨(by (try simp only [List.length_cons, List.length_nil]); omega), (by (try simp only [List.length_cons, List.length_nil]); omega), ?_⟩⟩
    have hne : H ≠ G := fun q => by subst q; rw [En.set_same] at hG; cases hG
    have hG1 : E1 G = none := by rwa [En.set_ne _ _ hne.symm] at hG
    have n0 : ∀ a, E1 a = none → E a = none := fun a e => by
      cases c : E a with
      | none => rfl
      | some v => rw [h2 a v c] at e; cases e
    have rd : RD E ((E1.set H (.lst (zs.map hO))).set G (.lst ((srt Guest.nm gs).map gD))) H G zs hs gs := by
      refine ⟨h1, fun a c e => ?_, n0 _ hH, n0 _ hG1, hne, ?_, En.set_same _ _ _, fun z hz => ?_⟩
      · have a1 : a ≠ G := fun q => by subst q; rw [n0 _ hG1] at e; cases e
        have a2 : a ≠ H := fun q => by subst q; rw [n0 _ hH] at e; cases e
        rw [En.set_ne _ _ a1, En.set_ne _ _ a2]
        exact h2 a c e
      · rw [En.set_ne _ _ hne, En.set_same]
      · obtain ⟨a, e1, e2, e3⟩ := h3 z hz
        have a1 : a ≠ G := fun q => by subst q; rw [hG1] at e3; cases e3
        have a2 : a ≠ H := fun q => by subst q; rw [hH] at e3; cases e3
        refine ⟨a, e1, e2, a2, a1, ?_⟩
        rw [En.set_ne _ _ a1, En.set_ne _ _ a2]
        exact e3
    have ws := w.srt
    rw [← h1] at ws
    refine world_ok (k := k + 1) rd.wd ws ?_
    refine ⟨(by (try simp only [List.length_cons, List.length_nil]); omega), ?_⟩
    refine show_spec (k := k) rd.wd ws ?_
    rw [h1, textW_srt w, cmp_eqs, beq_self_eq_true]
    refine need_spec ⟨(by (try simp only [List.length_cons, List.length_nil]); omega), _, En.le_refl _, ?_⟩
    exact h H G zs _ rd
  by_cases hi : itemsW hs gs = []
  · have e0 : textW hs gs = [] := by
      unfold textW
      rw [rowsW_items, hi]
      rfl
    have t := tail [] (by rw [hi]; rfl)
    rw [if_neg (by rw [e0]; decide)]
    exact ⟨by omega, t⟩
  · obtain ⟨i0, il, e0⟩ := List.exists_cons_of_ne_nil hi
    have e1 : textW hs gs = TL.joinL [10] ((itemsW hs gs).map rowS) := by unfold textW; rw [rowsW_items]
    have e2 : TL.spl [10] 0 [] (textW hs gs) = (itemsW hs gs).map rowS := by rw [e1]; exact spl_text hi hok
    have e3 : (!textW hs gs == []) = true := by
      rw [Bool.not_eq_true', beq_eq_false_iff_ne, e1, e0]
      exact text_ne
    rw [if_pos e3, e2, List.map_map]
    refine ⟨by decide, by omega, by rw [List.length_map]; omega, by rw [List.length_map]; omega, ?_⟩
    refine wLc_ml (D.str ∘ rowS) wD1 trivial _ _ (fun z hz q1 q2 h1 => ?_) ?_
    · refine ⟨(by (try simp only [List.length_cons, List.length_nil]); omega), ?_⟩
      dsimp only
      rw [if_pos rfl]
      simp only [c13_0, Function.comp]
      simp only [wSs, wS, wE, wA, wT, wB, wI, wG, wGs, tgsL, wipeD, startD, List.map_cons, List.map_nil, List.length_cons, List.length_nil, List.replicate, List.cons_append, List.nil_append, List.append_nil, List.set_cons_zero, List.set_cons_succ, List.set_nil, getv0, getvS, truR_bl, asI_i, asB_b, asS_s, asT_t, optI_0, optI_1, opt_some, ixR_tup, ixR_lst, ixR_set, ixR_str, asQ_tup, asQ_lst, asQ_set, asL_lst, asL_set, asC_set, lenR_tup, lenR_lst, lenR_str, lenR_set, atI0, atI1, atI2, ixN0, ixN2, lv_lst, lv_set, seq_lst, seq_tup, seq_str, bop_ai, bop_as, bop_al, bop_si, bop_mi, bop_ms, bop_mb, bop_mo, bop_fd, bop_pw, cmp_lti, cmp_lei, cmp_gti, cmp_gei, cmp_eqi, cmp_nei, cmp_eqs, cmp_nes, cmp_isin, cmp_nin, in_sign, in_tup, bm_app, bm_pop, bm_clear, bm_join, bm_split, bm_ends, bmT_app, bmT_pop, bmT_clear, bmT_join, bmT_split, bmT_ends, newL_f, newL_t, DL.bi_len, DL.bi_all, DL.bi_any, DL.bi_abs, DL.bi_max, DL.bi_min, DL.bi_inti, DL.bi_intb, DL.bi_str, DL.bi_repr, DL.bi_sorted, DL.bi_list, tr_non, tr_bl, tr_int, tr_str, tr_tup, tr_lst, DL.sl_str, DL.sl_lst, En.set_set, if_true, if_false, ite_true, ite_false, Bool.false_eq_true, Nat.zero_lt_succ, true_and, decide_true, decide_false, Bool.not_true, Bool.not_false, List.length_map, asBls_one, all_one]
      have hz' := hok z hz
      have l1 := row_len hz'
      have l2 := words_n hz'
      refine words_spec (by omega) ?_ (by rw [spl_row hz']; omega)
      rw [spl_row hz']
      exact h1
    exact ⟨by rw [List.length_map]; omega, tail _ rfl⟩
end KX

set_option Elab.async false
set_option linter.all false
set_option maxRecDepth 100000
set_option maxHeartbeats 4000000
namespace KX
open PySem L2 DL
/-! # worlds as data -/
structure Fine (d : PyData) (k w : Nat) : Prop where
  c : d.canLay0 = true
  i : d.intsShort 13 = true
  s : d.showable = true
  dd : d.depth ≤ k
  w : d.weight ≤ w
theorem fine_str {x : List Nat} (h : goodB x = true) : Fine (.str (toS x)) 0 8 := by
  obtain ⟨h1, h2, h3⟩ := goodB_iff h
  refine ⟨?_, by simp only [PyData.intsShort], by simp only [PyData.showable], by simp only [PyData.depth]; exact Nat.le_refl 0, ?_⟩
  · simp only [PyData.canLay0, PyData.strOk]
    refine Array.all_eq_true_iff_forall_mem.mpr fun c hc => ?_
    have hc' : c ∈ x := by simpa [toS] using hc
    have key : ∀ y ∈ abc, y < 1114112 := by decide
    exact decide_eq_true (key c (h3 c hc'))
  · simp only [PyData.weight]
    simpa [toS] using h2
theorem fine_int {n : Nat} (h : n < 10 ^ 9) : Fine (.int n) 0 40 := by
  have l := lg (x := (n : Int)) (k := 40) (by omega) (by omega) (by decide)
  refine ⟨by simp only [PyData.canLay0], ?_, ?_, by simp only [PyData.depth]; exact Nat.le_refl 0, ?_⟩
  · simp only [PyData.intsShort]
    exact decide_eq_true (PyData.shown_int_le (by simp; omega))
  · simp only [PyData.showable]
    exact decide_eq_true (by omega)
  · simp only [PyData.weight]
    split
    · omega
    · omega
theorem fine_bool (b : Bool) : Fine (.bool b) 0 0 := ⟨by simp only [PyData.canLay0], by simp only [PyData.intsShort], by simp only [PyData.showable], by simp only [PyData.depth]; exact Nat.le_refl 0, by simp only [PyData.weight]; exact Nat.le_refl 0⟩
theorem Fine.mono {d : PyData} {k k' w w' : Nat} (h : Fine d k w) (l1 : k ≤ k') (l2 : w ≤ w') : Fine d k' w' := ⟨h.c, h.i, h.s, Nat.le_trans h.dd l1, Nat.le_trans h.w l2⟩
theorem fine_all {k w : Nat} : ∀ {xs : List PyData}, (∀ d ∈ xs, Fine d k w) → PyData.canLayAll0 xs = true ∧ PyData.intsShortAll 13 xs = true ∧ PyData.showableAll xs = true ∧ PyData.depthAll xs ≤ k ∧ PyData.weightAll xs ≤ xs.length * (w + 1)
  | [], _ => ⟨by simp only [PyData.canLayAll0], by simp only [PyData.intsShortAll], by simp only [PyData.showableAll], by simp only [PyData.depthAll]; omega, by simp only [PyData.weightAll]; omega⟩
  | x :: xs, h => by
    have a := h x List.mem_cons_self
    obtain ⟨b1, b2, b3, b4, b5⟩ := fine_all (xs := xs) fun d hd => h d (List.mem_cons_of_mem _ hd)
    refine ⟨?_, ?_, ?_, ?_, ?_⟩
    · simp only [PyData.canLayAll0, a.c, b1, Bool.and_self]
    · simp only [PyData.intsShortAll, a.i, b2, Bool.and_self]
    · simp only [PyData.showableAll, a.s, b3, Bool.and_self]
    · simp only [PyData.depthAll]
      exact Nat.max_le.mpr ⟨a.dd, b4⟩
    · simp only [PyData.weightAll, List.length_cons]
      have := a.w
      rw [Nat.add_mul]
      omega
theorem fine_list {xs : List PyData} {k w m : Nat} (h : ∀ d ∈ xs, Fine d k w) (hm : xs.length ≤ m) : Fine (.list xs) (k + 1) (m * (w + 1)) := by
  obtain ⟨b1, b2, b3, b4, b5⟩ := fine_all h
  have := Nat.mul_le_mul_right (w + 1) hm
  exact ⟨by simp only [PyData.canLay0, b1], by simp only [PyData.intsShort, b2], by simp only [PyData.showable, b3], by simp only [PyData.depth]; omega, by simp only [PyData.weight]; omega⟩
theorem fine_tuple {xs : List PyData} {k w m : Nat} (h : ∀ d ∈ xs, Fine d k w) (hm : xs.length ≤ m) : Fine (.tuple xs) (k + 1) (m * (w + 1)) := by
  obtain ⟨b1, b2, b3, b4, b5⟩ := fine_all h
  have := Nat.mul_le_mul_right (w + 1) hm
  exact ⟨by simp only [PyData.canLay0, b1], by simp only [PyData.intsShort, b2], by simp only [PyData.showable, b3], by simp only [PyData.depth]; omega, by simp only [PyData.weight]; omega⟩
def hP (h : House) : PyData := .tuple [.str (toS h.nm), .int h.rm, .list (h.od.map fun y => .str (toS y))]
def gP (g : Guest) : PyData := .tuple [.str (toS g.nm), .bool g.ws]
def wP (hs : List House) (gs : List Guest) : PyData := .tuple [.list (hs.map hP), .list (gs.map gP)]
theorem fine_W {hs : List House} {gs : List Guest} (w : WOk hs gs) : Fine (wP hs gs) 4 200000 := by
  have h1 : ∀ h ∈ hs, Fine (hP h) 2 1353 := fun h hh => by
    have k := w.hk h hh
    refine (fine_tuple (k := 1) (w := 450) (m := 3) (fun d hd => ?_) (by simp only [List.length_cons, List.length_nil]; omega)).mono (by decide) (by decide)
    rcases List.mem_cons.mp hd with rfl | hd
    · exact (fine_str k.nm).mono (by decide) (by decide)
    rcases List.mem_cons.mp hd with rfl | hd
    · exact (fine_int k.rm).mono (by decide) (by decide)
    rw [List.mem_singleton.mp hd]
    refine (fine_list (k := 0) (w := 8) (m := 50) (fun d hd => ?_) (by rw [List.length_map]; exact k.ol)).mono (by decide) (by decide)
    obtain ⟨y, hy, rfl⟩ := List.mem_map.mp hd
    exact fine_str (k.od y hy)
  have h2 : ∀ g ∈ gs, Fine (gP g) 2 1353 := fun g hg => by
    refine (fine_tuple (k := 0) (w := 8) (m := 2) (fun d hd => ?_) (by simp only [List.length_cons, List.length_nil]; omega)).mono (by decide) (by decide)
    rcases List.mem_cons.mp hd with rfl | hd
    · exact fine_str (w.gg g hg)
    rw [List.mem_singleton.mp hd]
    exact (fine_bool _).mono (by decide) (by decide)
  refine (fine_tuple (k := 3) (w := 67700) (m := 2) (fun d hd => ?_) (by simp only [List.length_cons, List.length_nil]; omega)).mono (by decide) (by decide)
  rcases List.mem_cons.mp hd with rfl | hd
  · exact (fine_list (k := 2) (w := 1353) (m := 50) (fun d hd => by obtain ⟨y, hy, rfl⟩ := List.mem_map.mp hd; exact h1 y hy) (by rw [List.length_map]; exact w.hn)).mono (by decide) (by decide)
  · rw [List.mem_singleton.mp hd]
    exact (fine_list (k := 2) (w := 1353) (m := 50) (fun d hd => by obtain ⟨y, hy, rfl⟩ := List.mem_map.mp hd; exact h2 y hy) (by rw [List.length_map]; exact w.gn)).mono (by decide) (by decide)
theorem Fine.shaped {d : PyData} {k w : Nat} (h : Fine d k w) (hk : k ≤ 64) : SeqAt.shaped d = true := by
  unfold SeqAt.shaped
  rw [h.c, decide_eq_true (Nat.le_trans h.dd hk)]
  rfl
theorem Fine.eqv {d : PyData} {k w : Nat} (h : Fine d k w) : PyData.eqv d d = true := SeqAt.eqv_refl d h.c
theorem Fine.len {d : PyData} {k w : Nat} (h : Fine d k w) (hk : k ≤ 64) (hw : w ≤ 2 ^ 20) : d.shown.length ≤ 16777216 := by
  have := PyData.shown_le_of_layable0 (d := d) (by
    unfold PyData.layable0
    rw [h.c, decide_eq_true (Nat.le_trans h.dd hk), decide_eq_true (Nat.le_trans h.w hw)]
    rfl) h.i
  omega
theorem dpFs_map {α : Type} {E : En} {r : D → Option PyData} {f : α → D} {g : α → PyData} : ∀ {l : List α}, (∀ a ∈ l, dpF E r (f a) = some (g a)) → dpFs E r (l.map f) = some (l.map g)
  | [], _ => rfl
  | a :: l, h => by
    rw [List.map_cons]
    unfold dpFs
    rw [h a List.mem_cons_self, dpFs_map fun b hb => h b (List.mem_cons_of_mem _ hb)]
    rfl
theorem mapM_map {α : Type} {r : D → Option PyData} {f : α → D} {g : α → PyData} : ∀ {l : List α}, (∀ a ∈ l, r (f a) = some (g a)) → (l.map f).mapM r = some (l.map g)
  | [], _ => rfl
  | a :: l, h => by
    rw [List.map_cons, List.mapM_cons, h a List.mem_cons_self, mapM_map fun b hb => h b (List.mem_cons_of_mem _ hb)]
    rfl
theorem dp_lv {α : Type} {E : En} {n : Nat} {f : α → D} {g : α → PyData} {l : List α} {H : D} (hH : lv E H = some (l.map f)) (h1 : ∀ a ∈ l, dp E n (f a) = some (g a)) (h2 : ∀ a ∈ l, dp E (n + 1) (f a) = some (g a)) : dp E (n + 1) H = some (.list (l.map g)) := by
  cases H with
  | lst ds =>
    have e : ds = l.map f := by
      have : some ds = some (l.map f) := hH
      exact Option.some.inj this
    subst e
    show (dpFs E (dp E n) (l.map f)).map PyData.list = _
    rw [dpFs_map (g := g) fun a ha => h2 a ha]
    rfl
  | ref a =>
    unfold lv at hH
    have e : E a = some (.lst (l.map f)) := by
      cases c : E a with
      | none => simp only [c] at hH; cases hH
      | some v =>
        cases v with
        | lst ds => simp only [c, Option.some.injEq] at hH; rw [hH]
        | ins _ _ => simp only [c] at hH; cases hH
    unfold dp dpF
    simp only [e]
    rw [mapM_map (g := g) h1]
    rfl
  | _ => cases hH
theorem dp_str {E : En} {n : Nat} {x : List Nat} : dp E n (.str x) = some (.str (toS x)) := by cases n <;> rfl
theorem dp_h {E : En} {n : Nat} {z : House × D} (h : lv E z.2 = some (z.1.od.map .str)) : dp E (n + 1) (hO z) = some (hP z.1) := by
  have e : dp E (n + 1) z.2 = some (.list (z.1.od.map fun y => .str (toS y))) := dp_lv h (fun _ _ => dp_str) fun _ _ => dp_str
  unfold dp at e ⊢
  unfold hO hP
  unfold dpF
  simp only [dpFs, dpF, e]
  rfl
theorem dp_g {E : En} {n : Nat} {g : Guest} : dp E n (gD g) = some (gP g) := by cases n <;> rfl
theorem dp_W {E : En} {d : D} {zs : List (House × D)} {gs : List Guest} (hw : WD E d zs gs) : dp E 4 d = some (wP (zs.map (·.1)) gs) := by
  obtain ⟨⟨H, G, rfl, hH, hG⟩, hod⟩ := hw
  have e1 : dp E 4 H = some (.list (zs.map fun z => hP z.1)) := dp_lv (n := 3) hH (fun z hz => dp_h (n := 2) (hod z hz)) fun z hz => dp_h (n := 3) (hod z hz)
  have e2 : dp E 4 G = some (.list (gs.map gP)) := dp_lv (n := 3) hG (fun _ _ => dp_g) fun _ _ => dp_g
  unfold dp at e1 e2 ⊢
  unfold wP
  unfold dpF
  simp only [dpFs, e1, e2]
  rw [List.map_map]
  rfl
def shW (hs : List House) (gs : List Guest) : List Nat := TL.tl (wP hs gs).shown
theorem WD.q {E : En} {d : D} {zs : List (House × D)} {gs : List Guest} (hw : WD E d zs gs) : isQ d := by
  obtain ⟨⟨H, G, rfl, hH, hG⟩, hod⟩ := hw
  exact trivial
theorem repr_W {E : En} {d : D} {zs : List (House × D)} {gs : List Guest} {m : Bool} {q : QE} (hw : WD E d zs gs) (w : WOk (zs.map (·.1)) gs) (h : q (.str (shW (zs.map (·.1)) gs)) E) : biR .repr m E [d] q := by
  rw [bi_repr, dp_W hw, opt_some]
  have f := fine_W w
  exact ⟨hw.q, ⟨f.s, Nat.le_trans f.dd (by decide)⟩, f.len (by decide) (by decide), h⟩
theorem eq_W {E : En} {d d' : D} {zs zs' : List (House × D)} {gs : List Guest} {k : Bool → Prop} (hw : WD E d zs gs) (hw' : WD E d' zs' gs) (he : zs.map (·.1) = zs'.map (·.1)) (w : WOk (zs.map (·.1)) gs) (h : k true) : cmpR .eq E d d' k := by
  have e1 := dp_W hw
  have e2 := dp_W hw'
  have f := fine_W w
  obtain ⟨⟨H, G, rfl, hH, hG⟩, hod⟩ := hw
  obtain ⟨⟨H', G', rfl, hH', hG'⟩, hod'⟩ := hw'
  have e : cmpR .eq E (.tup [H, G]) (.tup [H', G']) k = (match dp E 4 (.tup [H, G]), dp E 4 (.tup [H', G']) with
    | some p, some p' => SeqAt.shaped p = true ∧ SeqAt.shaped p' = true ∧ k (PyData.eqv p p')
    | _, _ => False) := rfl
  rw [e, e1, e2, ← he]
  refine ⟨f.shaped (by decide), f.shaped (by decide), ?_⟩
  rw [f.eqv]
  exact h
/-- the world as it is written -/
def frz (h : House) : House × D := (h, .lst (h.od.map .str))
theorem frz_fst (hs : List House) : (hs.map frz).map (·.1) = hs := by
  rw [List.map_map]
  exact List.map_id _
theorem frz_hO (hs : List House) : (hs.map frz).map hO = hs.map hD := by
  rw [List.map_map]
  rfl
theorem wd_wD (E : En) (hs : List House) (gs : List Guest) : WD E (wD hs gs) (hs.map frz) gs :=
  ⟨⟨_, _, rfl, by rw [frz_hO]; rfl, rfl⟩, fun z hz => by obtain ⟨h, _, rfl⟩ := List.mem_map.mp hz; rfl⟩
end KX

set_option Elab.async false
set_option linter.all false
set_option maxRecDepth 100000
set_option maxHeartbeats 4000000
namespace KX
open PySem L2 DL
theorem guestsL2 {k : Nat} {p : Addr} {a b : D} {o3 o4 o5 o6 o7 : Option D} : ∀ (l : List (List Nat)) (E : En) (t : Int × Int × Int) (n : Nat) (q : List D → En → Prop), E p = some (potC t) → PV (n + l.length) t →
    (∀ (gs : List Guest) t', gs.map Guest.nm = l → PV n t' → q (gs.map gD) (E.set p (potC t'))) →
    wLc (fun d s' E' k => 7 < List.length s' ∧ k (List.set s' 7 (some d)) E') (fun s' E' k => k true E') (fun s' E' k_1 => wE pg.G (wC pg.G pg.F (k + 1)) c20_0 s' E' k_1 noX) (fun _ => True)
      [some (.ref p), some a, some b, o3, o4, o5, o6, o7] (l.map D.str) E q
  | [], E, t, n, q, hp, hv, h => ⟨trivial, by have := h [] t rfl hv; rwa [En.set_id hp] at this⟩
  | y :: l, E, t, n, q, hp, hv, h => by
    rw [List.length_cons] at hv
    rw [List.map_cons]
    refine ⟨trivial, (by (try simp only [List.length_cons, List.length_nil, List.length_map, List.length_append]); omega), ?_⟩
    dsimp only
    rw [if_pos rfl]
    simp only [c20_0]
    simp only [wSs, wS, wE, wA, wT, wB, wI, wG, wGs, tgsL, wipeD, startD, List.map_cons, List.map_nil, List.length_cons, List.length_nil, List.replicate, List.cons_append, List.nil_append, List.append_nil, List.set_cons_zero, List.set_cons_succ, List.set_nil, getv0, getvS, truR_bl, asI_i, asB_b, asS_s, asT_t, optI_0, optI_1, opt_some, ixR_tup, ixR_lst, ixR_set, ixR_str, asQ_tup, asQ_lst, asQ_set, asL_lst, asL_set, asC_set, lenR_tup, lenR_lst, lenR_str, lenR_set, atI0, atI1, atI2, ixN0, ixN2, lv_lst, lv_set, seq_lst, seq_tup, seq_str, bop_ai, bop_as, bop_al, bop_si, bop_mi, bop_ms, bop_mb, bop_mo, bop_fd, bop_pw, cmp_lti, cmp_lei, cmp_gti, cmp_gei, cmp_eqi, cmp_nei, cmp_eqs, cmp_nes, cmp_isin, cmp_nin, in_sign, in_tup, bm_app, bm_pop, bm_clear, bm_join, bm_split, bm_ends, bmT_app, bmT_pop, bmT_clear, bmT_join, bmT_split, bmT_ends, newL_f, newL_t, DL.bi_len, DL.bi_all, DL.bi_any, DL.bi_abs, DL.bi_max, DL.bi_min, DL.bi_inti, DL.bi_intb, DL.bi_str, DL.bi_repr, DL.bi_sorted, DL.bi_list, tr_non, tr_bl, tr_int, tr_str, tr_tup, tr_lst, DL.sl_str, DL.sl_lst, En.set_set, if_true, if_false, ite_true, ite_false, Bool.false_eq_true, Nat.zero_lt_succ, true_and, decide_true, decide_false, Bool.not_true, Bool.not_false, List.length_map, asBls_one, all_one]
    refine scoop_spec (t := t) (b := n + l.length) hp hv (by decide) (by decide) fun v t' v0 v1 hv' => ?_
    simp only [wSs, wS, wE, wA, wT, wB, wI, wG, wGs, tgsL, wipeD, startD, List.map_cons, List.map_nil, List.length_cons, List.length_nil, List.replicate, List.cons_append, List.nil_append, List.append_nil, List.set_cons_zero, List.set_cons_succ, List.set_nil, getv0, getvS, truR_bl, asI_i, asB_b, asS_s, asT_t, optI_0, optI_1, opt_some, ixR_tup, ixR_lst, ixR_set, ixR_str, asQ_tup, asQ_lst, asQ_set, asL_lst, asL_set, asC_set, lenR_tup, lenR_lst, lenR_str, lenR_set, atI0, atI1, atI2, ixN0, ixN2, lv_lst, lv_set, seq_lst, seq_tup, seq_str, bop_ai, bop_as, bop_al, bop_si, bop_mi, bop_ms, bop_mb, bop_mo, bop_fd, bop_pw, cmp_lti, cmp_lei, cmp_gti, cmp_gei, cmp_eqi, cmp_nei, cmp_eqs, cmp_nes, cmp_isin, cmp_nin, in_sign, in_tup, bm_app, bm_pop, bm_clear, bm_join, bm_split, bm_ends, bmT_app, bmT_pop, bmT_clear, bmT_join, bmT_split, bmT_ends, newL_f, newL_t, DL.bi_len, DL.bi_all, DL.bi_any, DL.bi_abs, DL.bi_max, DL.bi_min, DL.bi_inti, DL.bi_intb, DL.bi_str, DL.bi_repr, DL.bi_sorted, DL.bi_list, tr_non, tr_bl, tr_int, tr_str, tr_tup, tr_lst, DL.sl_str, DL.sl_lst, En.set_set, if_true, if_false, ite_true, ite_false, Bool.false_eq_true, Nat.zero_lt_succ, true_and, decide_true, decide_false, Bool.not_true, Bool.not_false, List.length_map, asBls_one, all_one]
    refine ⟨by omega, guestsL2 l _ t' n _ (En.set_same _ _ _) hv' fun gs t2 hg hv2 => ?_⟩
    rw [En.set_set]
    exact h (⟨y, v == 0⟩ :: gs) t2 (by rw [List.map_cons, hg]) hv2
theorem housesL2 {k : Nat} {p : Addr} {ns : List (List Nat)} {m : Nat} (hnd : ns.Nodup) (hl2 : ns.length ≤ 100) {o3 o4 o5 o6 o7 : Option D} : ∀ (l : List (List Nat)) (E : En) (t : Int × Int × Int) (n : Nat) (q : List D → En → Prop), E p = some (potC t) → PV (n + l.length * 102) t →
    (∀ (hs : List House) t', hs.map House.nm = l → (∀ h ∈ hs, h.rm < 10 ^ 9 ∧ h.od.Nodup ∧ ∀ y ∈ h.od, y ∈ ns.drop m) → PV n t' → q (hs.map hD) (E.set p (potC t'))) →
    wLc (fun d s' E' k => 7 < List.length s' ∧ k (List.set s' 7 (some d)) E') (fun s' E' k => k true E') (fun s' E' k_1 => wE pg.G (wC pg.G pg.F (k + 2)) c20_1 s' E' k_1 noX) (fun _ => True)
      [some (.ref p), some (.lst (ns.map .str)), some (.int m), o3, o4, o5, o6, o7] (l.map D.str) E q
  | [], E, t, n, q, hp, hv, h => ⟨trivial, by have := h [] t rfl (fun _ hz => nomatch hz) (by simpa using hv); rwa [En.set_id hp] at this⟩
  | y :: l, E, t, n, q, hp, hv, h => by
    rw [List.length_cons] at hv
    rw [List.map_cons]
    refine ⟨trivial, (by (try simp only [List.length_cons, List.length_nil, List.length_map, List.length_append]); omega), ?_⟩
    dsimp only
    rw [if_pos rfl]
    simp only [c20_1]
    try simp only [wSs, wS, wE, wA, wT, wB, wI, wG, wGs, tgsL, wipeD, startD, List.map_cons, List.map_nil, List.length_cons, List.length_nil, List.replicate, List.cons_append, List.nil_append, List.append_nil, List.set_cons_zero, List.set_cons_succ, List.set_nil, getv0, getvS, truR_bl, asI_i, asB_b, asS_s, asT_t, optI_0, optI_1, opt_some, ixR_tup, ixR_lst, ixR_set, ixR_str, asQ_tup, asQ_lst, asQ_set, asL_lst, asL_set, asC_set, lenR_tup, lenR_lst, lenR_str, lenR_set, atI0, atI1, atI2, ixN0, ixN2, lv_lst, lv_set, seq_lst, seq_tup, seq_str, bop_ai, bop_as, bop_al, bop_si, bop_mi, bop_ms, bop_mb, bop_mo, bop_fd, bop_pw, cmp_lti, cmp_lei, cmp_gti, cmp_gei, cmp_eqi, cmp_nei, cmp_eqs, cmp_nes, cmp_isin, cmp_nin, in_sign, in_tup, bm_app, bm_pop, bm_clear, bm_join, bm_split, bm_ends, bmT_app, bmT_pop, bmT_clear, bmT_join, bmT_split, bmT_ends, newL_f, newL_t, DL.bi_len, DL.bi_all, DL.bi_any, DL.bi_abs, DL.bi_max, DL.bi_min, DL.bi_inti, DL.bi_intb, DL.bi_str, DL.bi_repr, DL.bi_sorted, DL.bi_list, tr_non, tr_bl, tr_int, tr_str, tr_tup, tr_lst, DL.sl_str, DL.sl_lst, En.set_set, if_true, if_false, ite_true, ite_false, Bool.false_eq_true, Nat.zero_lt_succ, true_and, decide_true, decide_false, Bool.not_true, Bool.not_false, List.length_map, asBls_one, all_one]
    refine scoop_spec (t := t) (b := n + l.length * 102 + 101) hp (hv.mono (by omega)) (by decide) (by decide) fun v t' v0 v1 hv' => ?_
    try simp only [wSs, wS, wE, wA, wT, wB, wI, wG, wGs, tgsL, wipeD, startD, List.map_cons, List.map_nil, List.length_cons, List.length_nil, List.replicate, List.cons_append, List.nil_append, List.append_nil, List.set_cons_zero, List.set_cons_succ, List.set_nil, getv0, getvS, truR_bl, asI_i, asB_b, asS_s, asT_t, optI_0, optI_1, opt_some, ixR_tup, ixR_lst, ixR_set, ixR_str, asQ_tup, asQ_lst, asQ_set, asL_lst, asL_set, asC_set, lenR_tup, lenR_lst, lenR_str, lenR_set, atI0, atI1, atI2, ixN0, ixN2, lv_lst, lv_set, seq_lst, seq_tup, seq_str, bop_ai, bop_as, bop_al, bop_si, bop_mi, bop_ms, bop_mb, bop_mo, bop_fd, bop_pw, cmp_lti, cmp_lei, cmp_gti, cmp_gei, cmp_eqi, cmp_nei, cmp_eqs, cmp_nes, cmp_isin, cmp_nin, in_sign, in_tup, bm_app, bm_pop, bm_clear, bm_join, bm_split, bm_ends, bmT_app, bmT_pop, bmT_clear, bmT_join, bmT_split, bmT_ends, newL_f, newL_t, DL.bi_len, DL.bi_all, DL.bi_any, DL.bi_abs, DL.bi_max, DL.bi_min, DL.bi_inti, DL.bi_intb, DL.bi_str, DL.bi_repr, DL.bi_sorted, DL.bi_list, tr_non, tr_bl, tr_int, tr_str, tr_tup, tr_lst, DL.sl_str, DL.sl_lst, En.set_set, if_true, if_false, ite_true, ite_false, Bool.false_eq_true, Nat.zero_lt_succ, true_and, decide_true, decide_false, Bool.not_true, Bool.not_false, List.length_map, asBls_one, all_one]
    rw [cut_from, ← List.map_drop]
    have hdl : (ns.drop m).length ≤ 100 := by rw [List.length_drop]; omega
    refine ⟨(by (try simp only [List.length_cons, List.length_nil, List.length_map, List.length_append]); omega), order_spec (t := t') (gs := ns.drop m) (b := n + l.length * 102) (En.set_same _ _ _) (hv'.mono (by omega)) (by omega) (by omega) (by omega) fun ys zs t2 hpm hv2 => ?_⟩
    try simp only [wSs, wS, wE, wA, wT, wB, wI, wG, wGs, tgsL, wipeD, startD, List.map_cons, List.map_nil, List.length_cons, List.length_nil, List.replicate, List.cons_append, List.nil_append, List.append_nil, List.set_cons_zero, List.set_cons_succ, List.set_nil, getv0, getvS, truR_bl, asI_i, asB_b, asS_s, asT_t, optI_0, optI_1, opt_some, ixR_tup, ixR_lst, ixR_set, ixR_str, asQ_tup, asQ_lst, asQ_set, asL_lst, asL_set, asC_set, lenR_tup, lenR_lst, lenR_str, lenR_set, atI0, atI1, atI2, ixN0, ixN2, lv_lst, lv_set, seq_lst, seq_tup, seq_str, bop_ai, bop_as, bop_al, bop_si, bop_mi, bop_ms, bop_mb, bop_mo, bop_fd, bop_pw, cmp_lti, cmp_lei, cmp_gti, cmp_gei, cmp_eqi, cmp_nei, cmp_eqs, cmp_nes, cmp_isin, cmp_nin, in_sign, in_tup, bm_app, bm_pop, bm_clear, bm_join, bm_split, bm_ends, bmT_app, bmT_pop, bmT_clear, bmT_join, bmT_split, bmT_ends, newL_f, newL_t, DL.bi_len, DL.bi_all, DL.bi_any, DL.bi_abs, DL.bi_max, DL.bi_min, DL.bi_inti, DL.bi_intb, DL.bi_str, DL.bi_repr, DL.bi_sorted, DL.bi_list, tr_non, tr_bl, tr_int, tr_str, tr_tup, tr_lst, DL.sl_str, DL.sl_lst, En.set_set, if_true, if_false, ite_true, ite_false, Bool.false_eq_true, Nat.zero_lt_succ, true_and, decide_true, decide_false, Bool.not_true, Bool.not_false, List.length_map, asBls_one, all_one]
    obtain ⟨rm, rfl⟩ : ∃ j : Nat, v = (j : Int) := ⟨v.toNat, (Int.toNat_of_nonneg v0).symm⟩
    have nd2 := hpm.nodup_iff.mpr (hnd.sublist (List.drop_sublist _ _))
    refine ⟨by omega, housesL2 hnd hl2 l _ t2 n _ (En.set_same _ _ _) hv2 fun hs t3 k1 k2 k3 => ?_⟩
    rw [En.set_set]
    refine h (⟨y, rm, ys⟩ :: hs) t3 (by rw [List.map_cons, k1]) (fun z hz => ?_) k3
    rcases List.mem_cons.mp hz with rfl | hz
    · exact ⟨by show rm < _; omega, nd2.sublist (List.sublist_append_left _ _), fun w hw => hpm.mem_iff.mp (List.mem_append_left _ hw)⟩
    · exact k2 z hz
theorem srt_perm_eq {α : Type} {key : α → List Nat} {l l' : List α} (h : l'.Perm l) (hn : (l.map key).Nodup) : srt key l' = srt key l :=
  srt_uniq ((srt_perm key l').trans (h.trans (srt_perm key l).symm)) (srt_pw _ _) (srt_pw _ _) ((((((srt_perm key l').trans h).map key).nodup_iff)).mpr hn)
theorem textW_perm {hs hs' : List House} {gs gs' : List Guest} (w : WOk hs gs) (h : hs'.Perm hs) (g : gs'.Perm gs) : textW hs' gs' = textW hs gs := by
  unfold textW rowsW
  rw [srt_perm_eq h w.tk.hn, srt_perm_eq g w.tk.gn]
theorem sort_h {E : En} {hs : List House} {q : QE} (hn : (hs.map House.nm).Nodup) (hl : hs.length ≤ 50) (h : q (.lst ((srt House.nm hs).map hD)) E) : sortR false E (hs.map hD) q :=
  sort_tup hD House.nm (fun z => ⟨_, rfl⟩) hs hn (by omega) (by rw [newL_f, List.length_map, srt_len]; exact ⟨by omega, h⟩)
theorem sort_g {E : En} {gs : List Guest} {q : QE} (hn : (gs.map Guest.nm).Nodup) (hl : gs.length ≤ 50) (h : q (.lst ((srt Guest.nm gs).map gD)) E) : sortR false E (gs.map gD) q :=
  sort_tup gD Guest.nm (fun z => ⟨_, rfl⟩) gs hn (by omega) (by rw [newL_f, List.length_map, srt_len]; exact ⟨by omega, h⟩)
theorem cut_ft' {α : Type} (xs : List α) (k : Nat) : cut xs (some 1) (some (k : Int)) = (xs.take k).drop 1 := cut_ft xs 1 k
theorem nat_of {v : Int} (h : 0 ≤ v) : ∃ j : Nat, v = (j : Int) := ⟨v.toNat, (Int.toNat_of_nonneg h).symm⟩
theorem wide_spec {k : Nat} {E : En} {p : Addr} {t : Int × Int × Int} {b : Nat} {q : QE} {x : Nat → En → Prop} (hp : E p = some (potC t)) (hv : PV (b + 3000) t)
    (h : ∀ t', PV b t' → q (.bl true) (E.set p (potC t'))) : CL (k + 7) i__law_wide_right [.ref p] E q x := by
  refine wC_go (fn := ⟨1, 8, b20⟩) rfl rfl ?_
  simp only [b20]
  try simp only [wSs, wS, wE, wA, wT, wB, wI, wG, wGs, tgsL, wipeD, startD, List.map_cons, List.map_nil, List.length_cons, List.length_nil, List.replicate, List.cons_append, List.nil_append, List.append_nil, List.set_cons_zero, List.set_cons_succ, List.set_nil, getv0, getvS, truR_bl, asI_i, asB_b, asS_s, asT_t, optI_0, optI_1, opt_some, ixR_tup, ixR_lst, ixR_set, ixR_str, asQ_tup, asQ_lst, asQ_set, asL_lst, asL_set, asC_set, lenR_tup, lenR_lst, lenR_str, lenR_set, atI0, atI1, atI2, ixN0, ixN2, lv_lst, lv_set, seq_lst, seq_tup, seq_str, bop_ai, bop_as, bop_al, bop_si, bop_mi, bop_ms, bop_mb, bop_mo, bop_fd, bop_pw, cmp_lti, cmp_lei, cmp_gti, cmp_gei, cmp_eqi, cmp_nei, cmp_eqs, cmp_nes, cmp_isin, cmp_nin, in_sign, in_tup, bm_app, bm_pop, bm_clear, bm_join, bm_split, bm_ends, bmT_app, bmT_pop, bmT_clear, bmT_join, bmT_split, bmT_ends, newL_f, newL_t, DL.bi_len, DL.bi_all, DL.bi_any, DL.bi_abs, DL.bi_max, DL.bi_min, DL.bi_inti, DL.bi_intb, DL.bi_str, DL.bi_repr, DL.bi_sorted, DL.bi_list, tr_non, tr_bl, tr_int, tr_str, tr_tup, tr_lst, DL.sl_str, DL.sl_lst, En.set_set, if_true, if_false, ite_true, ite_false, Bool.false_eq_true, Nat.zero_lt_succ, true_and, decide_true, decide_false, Bool.not_true, Bool.not_false, List.length_map, asBls_one, all_one]
  refine scoop_spec (t := t) (b := b + 2999) hp (hv.mono (by omega)) (by decide) (by decide) fun v t1 v0 v1 hv1 => ?_
  try simp only [wSs, wS, wE, wA, wT, wB, wI, wG, wGs, tgsL, wipeD, startD, List.map_cons, List.map_nil, List.length_cons, List.length_nil, List.replicate, List.cons_append, List.nil_append, List.append_nil, List.set_cons_zero, List.set_cons_succ, List.set_nil, getv0, getvS, truR_bl, asI_i, asB_b, asS_s, asT_t, optI_0, optI_1, opt_some, ixR_tup, ixR_lst, ixR_set, ixR_str, asQ_tup, asQ_lst, asQ_set, asL_lst, asL_set, asC_set, lenR_tup, lenR_lst, lenR_str, lenR_set, atI0, atI1, atI2, ixN0, ixN2, lv_lst, lv_set, seq_lst, seq_tup, seq_str, bop_ai, bop_as, bop_al, bop_si, bop_mi, bop_ms, bop_mb, bop_mo, bop_fd, bop_pw, cmp_lti, cmp_lei, cmp_gti, cmp_gei, cmp_eqi, cmp_nei, cmp_eqs, cmp_nes, cmp_isin, cmp_nin, in_sign, in_tup, bm_app, bm_pop, bm_clear, bm_join, bm_split, bm_ends, bmT_app, bmT_pop, bmT_clear, bmT_join, bmT_split, bmT_ends, newL_f, newL_t, DL.bi_len, DL.bi_all, DL.bi_any, DL.bi_abs, DL.bi_max, DL.bi_min, DL.bi_inti, DL.bi_intb, DL.bi_str, DL.bi_repr, DL.bi_sorted, DL.bi_list, tr_non, tr_bl, tr_int, tr_str, tr_tup, tr_lst, DL.sl_str, DL.sl_lst, En.set_set, if_true, if_false, ite_true, ite_false, Bool.false_eq_true, Nat.zero_lt_succ, true_and, decide_true, decide_false, Bool.not_true, Bool.not_false, List.length_map, asBls_one, all_one]
  obtain ⟨m1, rfl⟩ := nat_of v0
  rw [show 30 + (m1 : Int) = ((30 + m1 : Nat) : Int) by omega]
  refine names_spec (m := 30 + m1) (t := t1) (b := b + 2900) (En.set_same _ _ _) (hv1.mono (by omega)) (by omega) fun ns t2 nl nnd ngood hv2 => ?_
  try simp only [wSs, wS, wE, wA, wT, wB, wI, wG, wGs, tgsL, wipeD, startD, List.map_cons, List.map_nil, List.length_cons, List.length_nil, List.replicate, List.cons_append, List.nil_append, List.append_nil, List.set_cons_zero, List.set_cons_succ, List.set_nil, getv0, getvS, truR_bl, asI_i, asB_b, asS_s, asT_t, optI_0, optI_1, opt_some, ixR_tup, ixR_lst, ixR_set, ixR_str, asQ_tup, asQ_lst, asQ_set, asL_lst, asL_set, asC_set, lenR_tup, lenR_lst, lenR_str, lenR_set, atI0, atI1, atI2, ixN0, ixN2, lv_lst, lv_set, seq_lst, seq_tup, seq_str, bop_ai, bop_as, bop_al, bop_si, bop_mi, bop_ms, bop_mb, bop_mo, bop_fd, bop_pw, cmp_lti, cmp_lei, cmp_gti, cmp_gei, cmp_eqi, cmp_nei, cmp_eqs, cmp_nes, cmp_isin, cmp_nin, in_sign, in_tup, bm_app, bm_pop, bm_clear, bm_join, bm_split, bm_ends, bmT_app, bmT_pop, bmT_clear, bmT_join, bmT_split, bmT_ends, newL_f, newL_t, DL.bi_len, DL.bi_all, DL.bi_any, DL.bi_abs, DL.bi_max, DL.bi_min, DL.bi_inti, DL.bi_intb, DL.bi_str, DL.bi_repr, DL.bi_sorted, DL.bi_list, tr_non, tr_bl, tr_int, tr_str, tr_tup, tr_lst, DL.sl_str, DL.sl_lst, En.set_set, if_true, if_false, ite_true, ite_false, Bool.false_eq_true, Nat.zero_lt_succ, true_and, decide_true, decide_false, Bool.not_true, Bool.not_false, List.length_map, asBls_one, all_one]
  refine ⟨(by (try simp only [List.length_cons, List.length_nil, List.length_map, List.length_append]); omega), scoop_spec (t := t2) (b := b + 2899) (En.set_same _ _ _) (hv2.mono (by omega)) (by decide) (by decide) fun v2 t3 v20 v21 hv3 => ?_⟩
  try simp only [wSs, wS, wE, wA, wT, wB, wI, wG, wGs, tgsL, wipeD, startD, List.map_cons, List.map_nil, List.length_cons, List.length_nil, List.replicate, List.cons_append, List.nil_append, List.append_nil, List.set_cons_zero, List.set_cons_succ, List.set_nil, getv0, getvS, truR_bl, asI_i, asB_b, asS_s, asT_t, optI_0, optI_1, opt_some, ixR_tup, ixR_lst, ixR_set, ixR_str, asQ_tup, asQ_lst, asQ_set, asL_lst, asL_set, asC_set, lenR_tup, lenR_lst, lenR_str, lenR_set, atI0, atI1, atI2, ixN0, ixN2, lv_lst, lv_set, seq_lst, seq_tup, seq_str, bop_ai, bop_as, bop_al, bop_si, bop_mi, bop_ms, bop_mb, bop_mo, bop_fd, bop_pw, cmp_lti, cmp_lei, cmp_gti, cmp_gei, cmp_eqi, cmp_nei, cmp_eqs, cmp_nes, cmp_isin, cmp_nin, in_sign, in_tup, bm_app, bm_pop, bm_clear, bm_join, bm_split, bm_ends, bmT_app, bmT_pop, bmT_clear, bmT_join, bmT_split, bmT_ends, newL_f, newL_t, DL.bi_len, DL.bi_all, DL.bi_any, DL.bi_abs, DL.bi_max, DL.bi_min, DL.bi_inti, DL.bi_intb, DL.bi_str, DL.bi_repr, DL.bi_sorted, DL.bi_list, tr_non, tr_bl, tr_int, tr_str, tr_tup, tr_lst, DL.sl_str, DL.sl_lst, En.set_set, if_true, if_false, ite_true, ite_false, Bool.false_eq_true, Nat.zero_lt_succ, true_and, decide_true, decide_false, Bool.not_true, Bool.not_false, List.length_map, asBls_one, all_one]
  obtain ⟨m2, rfl⟩ := nat_of v20
  rw [show 6 + (m2 : Int) = ((6 + m2 : Nat) : Int) by omega]
  rw [cut_from, ← List.map_drop]
  have hdl : (ns.drop (6 + m2)).length = 30 + m1 - (6 + m2) := by rw [List.length_drop]; omega
  refine ⟨(by (try simp only [List.length_cons, List.length_nil, List.length_map, List.length_append]); omega), (by (try simp only [List.length_cons, List.length_nil, List.length_map, List.length_append]); omega), (by (try simp only [List.length_cons, List.length_nil, List.length_map, List.length_append]); omega), ?_⟩
  refine guestsL2 _ _ t3 (b + 2800) _ (En.set_same _ _ _) (hv3.mono (by omega)) fun gs t4 k1 hv4 => ?_
  have gl : gs.length ≤ 50 := by rw [← List.length_map (f := Guest.nm), k1]; omega
  try simp only [wSs, wS, wE, wA, wT, wB, wI, wG, wGs, tgsL, wipeD, startD, List.map_cons, List.map_nil, List.length_cons, List.length_nil, List.replicate, List.cons_append, List.nil_append, List.append_nil, List.set_cons_zero, List.set_cons_succ, List.set_nil, getv0, getvS, truR_bl, asI_i, asB_b, asS_s, asT_t, optI_0, optI_1, opt_some, ixR_tup, ixR_lst, ixR_set, ixR_str, asQ_tup, asQ_lst, asQ_set, asL_lst, asL_set, asC_set, lenR_tup, lenR_lst, lenR_str, lenR_set, atI0, atI1, atI2, ixN0, ixN2, lv_lst, lv_set, seq_lst, seq_tup, seq_str, bop_ai, bop_as, bop_al, bop_si, bop_mi, bop_ms, bop_mb, bop_mo, bop_fd, bop_pw, cmp_lti, cmp_lei, cmp_gti, cmp_gei, cmp_eqi, cmp_nei, cmp_eqs, cmp_nes, cmp_isin, cmp_nin, in_sign, in_tup, bm_app, bm_pop, bm_clear, bm_join, bm_split, bm_ends, bmT_app, bmT_pop, bmT_clear, bmT_join, bmT_split, bmT_ends, newL_f, newL_t, DL.bi_len, DL.bi_all, DL.bi_any, DL.bi_abs, DL.bi_max, DL.bi_min, DL.bi_inti, DL.bi_intb, DL.bi_str, DL.bi_repr, DL.bi_sorted, DL.bi_list, tr_non, tr_bl, tr_int, tr_str, tr_tup, tr_lst, DL.sl_str, DL.sl_lst, En.set_set, if_true, if_false, ite_true, ite_false, Bool.false_eq_true, Nat.zero_lt_succ, true_and, decide_true, decide_false, Bool.not_true, Bool.not_false, List.length_map, asBls_one, all_one]
  refine ⟨by omega, (by (try simp only [List.length_cons, List.length_nil, List.length_map, List.length_append]); omega), (by (try simp only [List.length_cons, List.length_nil, List.length_map, List.length_append]); omega), ?_⟩
  refine order_spec (t := t4) (gs := ns.drop (6 + m2)) (b := b + 2700) (En.set_same _ _ _) (hv4.mono (by omega)) (by omega) (by omega) (by omega) fun ys zs t5 hpm hv5 => ?_
  have nd2 := hpm.nodup_iff.mpr (nnd.sublist (List.drop_sublist _ _))
  try simp only [wSs, wS, wE, wA, wT, wB, wI, wG, wGs, tgsL, wipeD, startD, List.map_cons, List.map_nil, List.length_cons, List.length_nil, List.replicate, List.cons_append, List.nil_append, List.append_nil, List.set_cons_zero, List.set_cons_succ, List.set_nil, getv0, getvS, truR_bl, asI_i, asB_b, asS_s, asT_t, optI_0, optI_1, opt_some, ixR_tup, ixR_lst, ixR_set, ixR_str, asQ_tup, asQ_lst, asQ_set, asL_lst, asL_set, asC_set, lenR_tup, lenR_lst, lenR_str, lenR_set, atI0, atI1, atI2, ixN0, ixN2, lv_lst, lv_set, seq_lst, seq_tup, seq_str, bop_ai, bop_as, bop_al, bop_si, bop_mi, bop_ms, bop_mb, bop_mo, bop_fd, bop_pw, cmp_lti, cmp_lei, cmp_gti, cmp_gei, cmp_eqi, cmp_nei, cmp_eqs, cmp_nes, cmp_isin, cmp_nin, in_sign, in_tup, bm_app, bm_pop, bm_clear, bm_join, bm_split, bm_ends, bmT_app, bmT_pop, bmT_clear, bmT_join, bmT_split, bmT_ends, newL_f, newL_t, DL.bi_len, DL.bi_all, DL.bi_any, DL.bi_abs, DL.bi_max, DL.bi_min, DL.bi_inti, DL.bi_intb, DL.bi_str, DL.bi_repr, DL.bi_sorted, DL.bi_list, tr_non, tr_bl, tr_int, tr_str, tr_tup, tr_lst, DL.sl_str, DL.sl_lst, En.set_set, if_true, if_false, ite_true, ite_false, Bool.false_eq_true, Nat.zero_lt_succ, true_and, decide_true, decide_false, Bool.not_true, Bool.not_false, List.length_map, asBls_one, all_one]
  obtain ⟨n0, nr, en0⟩ : ∃ n0 nr, ns = n0 :: nr := by
    cases ns with
    | nil => simp at nl; omega
    | cons a l => exact ⟨a, l, rfl⟩
  have e0 : atI (ns.map D.str) 0 = some (.str n0) := by rw [en0]; exact atI0 _ _
  rw [e0]
  try simp only [wSs, wS, wE, wA, wT, wB, wI, wG, wGs, tgsL, wipeD, startD, List.map_cons, List.map_nil, List.length_cons, List.length_nil, List.replicate, List.cons_append, List.nil_append, List.append_nil, List.set_cons_zero, List.set_cons_succ, List.set_nil, getv0, getvS, truR_bl, asI_i, asB_b, asS_s, asT_t, optI_0, optI_1, opt_some, ixR_tup, ixR_lst, ixR_set, ixR_str, asQ_tup, asQ_lst, asQ_set, asL_lst, asL_set, asC_set, lenR_tup, lenR_lst, lenR_str, lenR_set, atI0, atI1, atI2, ixN0, ixN2, lv_lst, lv_set, seq_lst, seq_tup, seq_str, bop_ai, bop_as, bop_al, bop_si, bop_mi, bop_ms, bop_mb, bop_mo, bop_fd, bop_pw, cmp_lti, cmp_lei, cmp_gti, cmp_gei, cmp_eqi, cmp_nei, cmp_eqs, cmp_nes, cmp_isin, cmp_nin, in_sign, in_tup, bm_app, bm_pop, bm_clear, bm_join, bm_split, bm_ends, bmT_app, bmT_pop, bmT_clear, bmT_join, bmT_split, bmT_ends, newL_f, newL_t, DL.bi_len, DL.bi_all, DL.bi_any, DL.bi_abs, DL.bi_max, DL.bi_min, DL.bi_inti, DL.bi_intb, DL.bi_str, DL.bi_repr, DL.bi_sorted, DL.bi_list, tr_non, tr_bl, tr_int, tr_str, tr_tup, tr_lst, DL.sl_str, DL.sl_lst, En.set_set, if_true, if_false, ite_true, ite_false, Bool.false_eq_true, Nat.zero_lt_succ, true_and, decide_true, decide_false, Bool.not_true, Bool.not_false, List.length_map, asBls_one, all_one]
  have e9 : (10 : Int) ^ Int.toNat 9 = 1000000000 := by decide +kernel
  rw [e9]
  refine ⟨(by (try simp only [List.length_cons, List.length_nil, List.length_map, List.length_append]); omega), by decide, by decide, scoop_spec (t := t5) (b := b + 2699) (En.set_same _ _ _) (hv5.mono (by omega)) (by decide) (by decide) fun v3 t6 v30 v31 hv6 => ?_⟩
  try simp only [wSs, wS, wE, wA, wT, wB, wI, wG, wGs, tgsL, wipeD, startD, List.map_cons, List.map_nil, List.length_cons, List.length_nil, List.replicate, List.cons_append, List.nil_append, List.append_nil, List.set_cons_zero, List.set_cons_succ, List.set_nil, getv0, getvS, truR_bl, asI_i, asB_b, asS_s, asT_t, optI_0, optI_1, opt_some, ixR_tup, ixR_lst, ixR_set, ixR_str, asQ_tup, asQ_lst, asQ_set, asL_lst, asL_set, asC_set, lenR_tup, lenR_lst, lenR_str, lenR_set, atI0, atI1, atI2, ixN0, ixN2, lv_lst, lv_set, seq_lst, seq_tup, seq_str, bop_ai, bop_as, bop_al, bop_si, bop_mi, bop_ms, bop_mb, bop_mo, bop_fd, bop_pw, cmp_lti, cmp_lei, cmp_gti, cmp_gei, cmp_eqi, cmp_nei, cmp_eqs, cmp_nes, cmp_isin, cmp_nin, in_sign, in_tup, bm_app, bm_pop, bm_clear, bm_join, bm_split, bm_ends, bmT_app, bmT_pop, bmT_clear, bmT_join, bmT_split, bmT_ends, newL_f, newL_t, DL.bi_len, DL.bi_all, DL.bi_any, DL.bi_abs, DL.bi_max, DL.bi_min, DL.bi_inti, DL.bi_intb, DL.bi_str, DL.bi_repr, DL.bi_sorted, DL.bi_list, tr_non, tr_bl, tr_int, tr_str, tr_tup, tr_lst, DL.sl_str, DL.sl_lst, En.set_set, if_true, if_false, ite_true, ite_false, Bool.false_eq_true, Nat.zero_lt_succ, true_and, decide_true, decide_false, Bool.not_true, Bool.not_false, List.length_map, asBls_one, all_one]
  obtain ⟨r0, rfl⟩ := nat_of v30
  rw [cut_ft', ← List.map_take, ← List.map_drop]
  have hcl : ((ns.take (6 + m2)).drop 1).length = 5 + m2 := by rw [List.length_drop, List.length_take]; omega
  refine ⟨by omega, by omega, (by (try simp only [List.length_cons, List.length_nil, List.length_map, List.length_append]); omega), (by (try simp only [List.length_cons, List.length_nil, List.length_map, List.length_append]); omega), (by (try simp only [List.length_cons, List.length_nil, List.length_map, List.length_append]); omega), ?_⟩
  refine housesL2 nnd (by omega) _ _ t6 (b + 100) _ (En.set_same _ _ _) (hv6.mono (by omega)) fun hs t7 k2 k3 hv7 => ?_
  have hl : hs.length = 5 + m2 := by rw [← List.length_map (f := House.nm), k2, hcl]
  try simp only [wSs, wS, wE, wA, wT, wB, wI, wG, wGs, tgsL, wipeD, startD, List.map_cons, List.map_nil, List.length_cons, List.length_nil, List.replicate, List.cons_append, List.nil_append, List.append_nil, List.set_cons_zero, List.set_cons_succ, List.set_nil, getv0, getvS, truR_bl, asI_i, asB_b, asS_s, asT_t, optI_0, optI_1, opt_some, ixR_tup, ixR_lst, ixR_set, ixR_str, asQ_tup, asQ_lst, asQ_set, asL_lst, asL_set, asC_set, lenR_tup, lenR_lst, lenR_str, lenR_set, atI0, atI1, atI2, ixN0, ixN2, lv_lst, lv_set, seq_lst, seq_tup, seq_str, bop_ai, bop_as, bop_al, bop_si, bop_mi, bop_ms, bop_mb, bop_mo, bop_fd, bop_pw, cmp_lti, cmp_lei, cmp_gti, cmp_gei, cmp_eqi, cmp_nei, cmp_eqs, cmp_nes, cmp_isin, cmp_nin, in_sign, in_tup, bm_app, bm_pop, bm_clear, bm_join, bm_split, bm_ends, bmT_app, bmT_pop, bmT_clear, bmT_join, bmT_split, bmT_ends, newL_f, newL_t, DL.bi_len, DL.bi_all, DL.bi_any, DL.bi_abs, DL.bi_max, DL.bi_min, DL.bi_inti, DL.bi_intb, DL.bi_str, DL.bi_repr, DL.bi_sorted, DL.bi_list, tr_non, tr_bl, tr_int, tr_str, tr_tup, tr_lst, DL.sl_str, DL.sl_lst, En.set_set, if_true, if_false, ite_true, ite_false, Bool.false_eq_true, Nat.zero_lt_succ, true_and, decide_true, decide_false, Bool.not_true, Bool.not_false, List.length_map, asBls_one, all_one]
  refine ⟨by omega, by (try simp only [List.length_append, List.length_cons, List.length_nil, List.length_map]); omega, (by (try simp only [List.length_cons, List.length_nil, List.length_map, List.length_append]); omega), by omega, ?_⟩
  have eh : [D.tup [D.str n0, D.int r0, D.lst (ys.map D.str)]] ++ hs.map hD = ((⟨n0, r0, ys⟩ : House) :: hs).map hD := rfl
  rw [show D.tup [D.str n0, D.int r0, D.lst (ys.map D.str)] :: hs.map hD = ((⟨n0, r0, ys⟩ : House) :: hs).map hD from rfl]
  have ens : (n0 :: (ns.take (6 + m2)).drop 1) = ns.take (6 + m2) := by
    rw [en0, show 6 + m2 = (5 + m2) + 1 by omega, List.take_succ_cons]
    rfl
  have hallp : (gs.map Guest.nm ++ ((⟨n0, r0, ys⟩ : House) :: hs).map House.nm).Perm ns := by
    rw [List.map_cons, k1, k2]
    show (ns.drop (6 + m2) ++ n0 :: (ns.take (6 + m2)).drop 1).Perm ns
    rw [ens]
    have := List.perm_append_comm (l₁ := ns.drop (6 + m2)) (l₂ := ns.take (6 + m2))
    rwa [List.take_append_drop] at this
  have w : WOk ((⟨n0, r0, ys⟩ : House) :: hs) gs := by
    refine ⟨hallp.nodup_iff.mpr nnd, fun g hg => ngood _ ?_, fun z hz => ngood _ ?_, fun z hz => ?_, fun z hz => ?_, by rw [List.length_cons]; omega, gl⟩
    · exact hallp.mem_iff.mp (List.mem_append_left _ (List.mem_map_of_mem hg))
    · exact hallp.mem_iff.mp (List.mem_append_right _ (List.mem_map_of_mem hz))
    · rcases List.mem_cons.mp hz with rfl | hz
      · show r0 < _; omega
      · exact (k3 z hz).1
    · rw [k1]
      rcases List.mem_cons.mp hz with rfl | hz
      · exact ⟨nd2.sublist (List.sublist_append_left _ _), fun y hy => hpm.mem_iff.mp (List.mem_append_left _ hy)⟩
      · exact (k3 z hz).2
  generalize ((⟨n0, r0, ys⟩ : House) :: hs) = hs' at w
  refine text_spec (k := k + 5) w.tk ?_
  have htl := textW_len w
  try simp only [wSs, wS, wE, wA, wT, wB, wI, wG, wGs, tgsL, wipeD, startD, List.map_cons, List.map_nil, List.length_cons, List.length_nil, List.replicate, List.cons_append, List.nil_append, List.append_nil, List.set_cons_zero, List.set_cons_succ, List.set_nil, getv0, getvS, truR_bl, asI_i, asB_b, asS_s, asT_t, optI_0, optI_1, opt_some, ixR_tup, ixR_lst, ixR_set, ixR_str, asQ_tup, asQ_lst, asQ_set, asL_lst, asL_set, asC_set, lenR_tup, lenR_lst, lenR_str, lenR_set, atI0, atI1, atI2, ixN0, ixN2, lv_lst, lv_set, seq_lst, seq_tup, seq_str, bop_ai, bop_as, bop_al, bop_si, bop_mi, bop_ms, bop_mb, bop_mo, bop_fd, bop_pw, cmp_lti, cmp_lei, cmp_gti, cmp_gei, cmp_eqi, cmp_nei, cmp_eqs, cmp_nes, cmp_isin, cmp_nin, in_sign, in_tup, bm_app, bm_pop, bm_clear, bm_join, bm_split, bm_ends, bmT_app, bmT_pop, bmT_clear, bmT_join, bmT_split, bmT_ends, newL_f, newL_t, DL.bi_len, DL.bi_all, DL.bi_any, DL.bi_abs, DL.bi_max, DL.bi_min, DL.bi_inti, DL.bi_intb, DL.bi_str, DL.bi_repr, DL.bi_sorted, DL.bi_list, tr_non, tr_bl, tr_int, tr_str, tr_tup, tr_lst, DL.sl_str, DL.sl_lst, En.set_set, if_true, if_false, ite_true, ite_false, Bool.false_eq_true, Nat.zero_lt_succ, true_and, decide_true, decide_false, Bool.not_true, Bool.not_false, List.length_map, asBls_one, all_one]
  refine ⟨(by (try simp only [List.length_cons, List.length_nil, List.length_map, List.length_append]); omega), by omega, ?_⟩
  by_cases h2 : (2000 : Int) < ((textW hs' gs).length : Int)
  · rw [decide_eq_true h2, if_pos rfl]
    exact ex_le (h _ (hv7.mono (by omega)))
  · rw [decide_eq_false h2]
    try simp only [wSs, wS, wE, wA, wT, wB, wI, wG, wGs, tgsL, wipeD, startD, List.map_cons, List.map_nil, List.length_cons, List.length_nil, List.replicate, List.cons_append, List.nil_append, List.append_nil, List.set_cons_zero, List.set_cons_succ, List.set_nil, getv0, getvS, truR_bl, asI_i, asB_b, asS_s, asT_t, optI_0, optI_1, opt_some, ixR_tup, ixR_lst, ixR_set, ixR_str, asQ_tup, asQ_lst, asQ_set, asL_lst, asL_set, asC_set, lenR_tup, lenR_lst, lenR_str, lenR_set, atI0, atI1, atI2, ixN0, ixN2, lv_lst, lv_set, seq_lst, seq_tup, seq_str, bop_ai, bop_as, bop_al, bop_si, bop_mi, bop_ms, bop_mb, bop_mo, bop_fd, bop_pw, cmp_lti, cmp_lei, cmp_gti, cmp_gei, cmp_eqi, cmp_nei, cmp_eqs, cmp_nes, cmp_isin, cmp_nin, in_sign, in_tup, bm_app, bm_pop, bm_clear, bm_join, bm_split, bm_ends, bmT_app, bmT_pop, bmT_clear, bmT_join, bmT_split, bmT_ends, newL_f, newL_t, DL.bi_len, DL.bi_all, DL.bi_any, DL.bi_abs, DL.bi_max, DL.bi_min, DL.bi_inti, DL.bi_intb, DL.bi_str, DL.bi_repr, DL.bi_sorted, DL.bi_list, tr_non, tr_bl, tr_int, tr_str, tr_tup, tr_lst, DL.sl_str, DL.sl_lst, En.set_set, if_true, if_false, ite_true, ite_false, Bool.false_eq_true, Nat.zero_lt_succ, true_and, decide_true, decide_false, Bool.not_true, Bool.not_false, List.length_map, asBls_one, all_one]
    refine ⟨by omega, show_spec (k := k + 1) (wd_wD _ hs' gs) (by rw [frz_fst]; exact w) ?_⟩
    rw [frz_fst, cmp_eqs, beq_self_eq_true]
    try simp only [wSs, wS, wE, wA, wT, wB, wI, wG, wGs, tgsL, wipeD, startD, List.map_cons, List.map_nil, List.length_cons, List.length_nil, List.replicate, List.cons_append, List.nil_append, List.append_nil, List.set_cons_zero, List.set_cons_succ, List.set_nil, getv0, getvS, truR_bl, asI_i, asB_b, asS_s, asT_t, optI_0, optI_1, opt_some, ixR_tup, ixR_lst, ixR_set, ixR_str, asQ_tup, asQ_lst, asQ_set, asL_lst, asL_set, asC_set, lenR_tup, lenR_lst, lenR_str, lenR_set, atI0, atI1, atI2, ixN0, ixN2, lv_lst, lv_set, seq_lst, seq_tup, seq_str, bop_ai, bop_as, bop_al, bop_si, bop_mi, bop_ms, bop_mb, bop_mo, bop_fd, bop_pw, cmp_lti, cmp_lei, cmp_gti, cmp_gei, cmp_eqi, cmp_nei, cmp_eqs, cmp_nes, cmp_isin, cmp_nin, in_sign, in_tup, bm_app, bm_pop, bm_clear, bm_join, bm_split, bm_ends, bmT_app, bmT_pop, bmT_clear, bmT_join, bmT_split, bmT_ends, newL_f, newL_t, DL.bi_len, DL.bi_all, DL.bi_any, DL.bi_abs, DL.bi_max, DL.bi_min, DL.bi_inti, DL.bi_intb, DL.bi_str, DL.bi_repr, DL.bi_sorted, DL.bi_list, tr_non, tr_bl, tr_int, tr_str, tr_tup, tr_lst, DL.sl_str, DL.sl_lst, En.set_set, if_true, if_false, ite_true, ite_false, Bool.false_eq_true, Nat.zero_lt_succ, true_and, decide_true, decide_false, Bool.not_true, Bool.not_false, List.length_map, asBls_one, all_one]
    refine read_spec (k := k) w fun H G zs E' rd => ?_
    refine sort_h w.tk.hn w.hn ?_
    try simp only [wSs, wS, wE, wA, wT, wB, wI, wG, wGs, tgsL, wipeD, startD, List.map_cons, List.map_nil, List.length_cons, List.length_nil, List.replicate, List.cons_append, List.nil_append, List.append_nil, List.set_cons_zero, List.set_cons_succ, List.set_nil, getv0, getvS, truR_bl, asI_i, asB_b, asS_s, asT_t, optI_0, optI_1, opt_some, ixR_tup, ixR_lst, ixR_set, ixR_str, asQ_tup, asQ_lst, asQ_set, asL_lst, asL_set, asC_set, lenR_tup, lenR_lst, lenR_str, lenR_set, atI0, atI1, atI2, ixN0, ixN2, lv_lst, lv_set, seq_lst, seq_tup, seq_str, bop_ai, bop_as, bop_al, bop_si, bop_mi, bop_ms, bop_mb, bop_mo, bop_fd, bop_pw, cmp_lti, cmp_lei, cmp_gti, cmp_gei, cmp_eqi, cmp_nei, cmp_eqs, cmp_nes, cmp_isin, cmp_nin, in_sign, in_tup, bm_app, bm_pop, bm_clear, bm_join, bm_split, bm_ends, bmT_app, bmT_pop, bmT_clear, bmT_join, bmT_split, bmT_ends, newL_f, newL_t, DL.bi_len, DL.bi_all, DL.bi_any, DL.bi_abs, DL.bi_max, DL.bi_min, DL.bi_inti, DL.bi_intb, DL.bi_str, DL.bi_repr, DL.bi_sorted, DL.bi_list, tr_non, tr_bl, tr_int, tr_str, tr_tup, tr_lst, DL.sl_str, DL.sl_lst, En.set_set, if_true, if_false, ite_true, ite_false, Bool.false_eq_true, Nat.zero_lt_succ, true_and, decide_true, decide_false, Bool.not_true, Bool.not_false, List.length_map, asBls_one, all_one]
    refine sort_g w.tk.gn w.gn ?_
    try simp only [wSs, wS, wE, wA, wT, wB, wI, wG, wGs, tgsL, wipeD, startD, List.map_cons, List.map_nil, List.length_cons, List.length_nil, List.replicate, List.cons_append, List.nil_append, List.append_nil, List.set_cons_zero, List.set_cons_succ, List.set_nil, getv0, getvS, truR_bl, asI_i, asB_b, asS_s, asT_t, optI_0, optI_1, opt_some, ixR_tup, ixR_lst, ixR_set, ixR_str, asQ_tup, asQ_lst, asQ_set, asL_lst, asL_set, asC_set, lenR_tup, lenR_lst, lenR_str, lenR_set, atI0, atI1, atI2, ixN0, ixN2, lv_lst, lv_set, seq_lst, seq_tup, seq_str, bop_ai, bop_as, bop_al, bop_si, bop_mi, bop_ms, bop_mb, bop_mo, bop_fd, bop_pw, cmp_lti, cmp_lei, cmp_gti, cmp_gei, cmp_eqi, cmp_nei, cmp_eqs, cmp_nes, cmp_isin, cmp_nin, in_sign, in_tup, bm_app, bm_pop, bm_clear, bm_join, bm_split, bm_ends, bmT_app, bmT_pop, bmT_clear, bmT_join, bmT_split, bmT_ends, newL_f, newL_t, DL.bi_len, DL.bi_all, DL.bi_any, DL.bi_abs, DL.bi_max, DL.bi_min, DL.bi_inti, DL.bi_intb, DL.bi_str, DL.bi_repr, DL.bi_sorted, DL.bi_list, tr_non, tr_bl, tr_int, tr_str, tr_tup, tr_lst, DL.sl_str, DL.sl_lst, En.set_set, if_true, if_false, ite_true, ite_false, Bool.false_eq_true, Nat.zero_lt_succ, true_and, decide_true, decide_false, Bool.not_true, Bool.not_false, List.length_map, asBls_one, all_one]
    refine ⟨by omega, ?_⟩
    refine eq_W rd.wd (wd_wD _ (srt House.nm hs') (srt Guest.nm gs)) (by rw [rd.ez0, frz_fst]) (by rw [rd.ez0]; exact w.srt) ?_
    exact ⟨_, rd.le, h _ (hv7.mono (by omega))⟩
end KX

set_option Elab.async false
set_option linter.all false
set_option maxRecDepth 100000
set_option maxHeartbeats 1000000
namespace KX
open PySem L2 DL
theorem le_set_new {E0 E : En} {a : Addr} {c : Cell} (h : E0.le E) (ha : E0 a = none) : E0.le (E.set a c) := fun b d e => by
  rw [En.set_ne _ _ (fun z => by subst z; rw [ha] at e; cases e)]
  exact h b d e
theorem nosL {k : Nat} {D' : EndD} {E0 : En} {H G : Addr} {L L2 : List D} {o0 o1 o2 o3 o4 o5 o6 o7 o8 o9 : Option D} {x : XP} : ∀ (l : List (House × D)) (E : En) (o10 o11 o12 : Option D), E0.le E → E H = some (.lst L) → E G = some (.lst L2) →
    (∀ z ∈ l, ∃ a ds, z.2 = .ref a ∧ E0 a = none ∧ a ≠ H ∧ a ≠ G ∧ E a = some (.lst ds) ∧ ds.length + l.length ≤ 1000) →
    (∀ E' o10 o11 o12, E0.le E' → E' H = some (.lst L) → E' G = some (.lst L2) → D'.nx [o0, o1, o2, o3, o4, o5, o6, o7, o8, o9, o10, o11, o12] E') →
    wFor (fun d s' E' k_1 => asT d fun ds => ds.length = 0 + 1 + 1 + 1 ∧ wGs pg.G (wC pg.G pg.F k) (Tgs.cons (Tg.nm 10) (Tgs.cons (Tg.nm 11) (Tgs.cons (Tg.nm 12) Tgs.nil))) ds s' E' k_1 x)
      (wSs pg.G (wC pg.G pg.F k) f21_0) (fun E' => E' H = some (.lst L)) D' (l.map hO) [o0, o1, o2, o3, o4, o5, o6, o7, o8, o9, o10, o11, o12] E
  | [], E, o10, o11, o12, h0, h1, h2, hz, h => ⟨h1, h E o10 o11 o12 h0 h1 h2⟩
  | z :: l, E, o10, o11, o12, h0, h1, h2, hz, h => by
    rw [List.map_cons]
    refine ⟨h1, ?_⟩
    obtain ⟨a, ds, e1, e2, e3, e4, e5, e6⟩ := hz z List.mem_cons_self
    rw [List.length_cons] at e6
    unfold hO
    rw [e1]
    simp only [f21_0]
    simp only [wSs, wS, wE, wA, wT, wB, wI, wG, wGs, tgsL, wipeD, startD, List.map_cons, List.map_nil, List.length_cons, List.length_nil, List.replicate, List.cons_append, List.nil_append, List.append_nil, List.set_cons_zero, List.set_cons_succ, List.set_nil, getv0, getvS, truR_bl, asI_i, asB_b, asS_s, asT_t, optI_0, optI_1, opt_some, ixR_tup, ixR_lst, ixR_set, ixR_str, asQ_tup, asQ_lst, asQ_set, asL_lst, asL_set, asC_set, lenR_tup, lenR_lst, lenR_str, lenR_set, atI0, atI1, atI2, ixN0, ixN2, lv_lst, lv_set, seq_lst, seq_tup, seq_str, bop_ai, bop_as, bop_al, bop_si, bop_mi, bop_ms, bop_mb, bop_mo, bop_fd, bop_pw, cmp_lti, cmp_lei, cmp_gti, cmp_gei, cmp_eqi, cmp_nei, cmp_eqs, cmp_nes, cmp_isin, cmp_nin, in_sign, in_tup, bm_app, bm_pop, bm_clear, bm_join, bm_split, bm_ends, bmT_app, bmT_pop, bmT_clear, bmT_join, bmT_split, bmT_ends, newL_f, newL_t, DL.bi_len, DL.bi_all, DL.bi_any, DL.bi_abs, DL.bi_max, DL.bi_min, DL.bi_inti, DL.bi_intb, DL.bi_str, DL.bi_repr, DL.bi_sorted, DL.bi_list, tr_non, tr_bl, tr_int, tr_str, tr_tup, tr_lst, DL.sl_str, DL.sl_lst, En.set_set, if_true, if_false, ite_true, ite_false, Bool.false_eq_true, Nat.zero_lt_succ, true_and, decide_true, decide_false, Bool.not_true, Bool.not_false, List.length_map, asBls_one, all_one]
    rw [asL_ref e5, asC_ref e5]
    refine ⟨(by (try simp only [List.length_cons, List.length_nil, List.length_map, List.length_append]); omega), (by (try simp only [List.length_cons, List.length_nil, List.length_map, List.length_append]); omega), (by (try simp only [List.length_cons, List.length_nil, List.length_map, List.length_append]); omega), by omega, _, En.le_refl _, ?_⟩
    refine nosL (k := k) l _ _ _ _ (le_set_new h0 e2) (by rw [En.set_ne _ _ e3.symm]; exact h1) (by rw [En.set_ne _ _ e4.symm]; exact h2) (fun y hy => ?_) h
    obtain ⟨a', ds', f1, f2, f3, f4, f5, f6⟩ := hz y (List.mem_cons_of_mem _ hy)
    rw [List.length_cons] at f6
    by_cases ea : a' = a
    · subst ea
      refine ⟨a', ds ++ [.str [110, 111]], f1, f2, f3, f4, En.set_same _ _ _, ?_⟩
      rw [List.length_append, List.length_singleton]
      omega
    · exact ⟨a', ds', f1, f2, f3, f4, by rw [En.set_ne _ _ ea]; exact f5, by omega⟩
theorem repr_K {E : En} {d : D} {zs : List (House × D)} {gs : List Guest} {K : PyData → Prop} (hw : WD E d zs gs) (w : WOk (zs.map (·.1)) gs) (h : K (wP (zs.map (·.1)) gs)) :
    opt (dp E 4 d) fun p => isQ d ∧ (p.showable = true ∧ p.depth ≤ 64) ∧ p.shown.length ≤ 16777216 ∧ K p := by
  rw [dp_W hw, opt_some]
  have f := fine_W w
  exact ⟨hw.q, ⟨f.s, Nat.le_trans f.dd (by decide)⟩, f.len (by decide) (by decide), h⟩
theorem turnL {k : Nat} {D' : EndD} {o0 o1 o2 o3 o4 o8 : Option D} {hs : List House} {gs : List Guest} (w : WOk hs gs) {E : En} : ∀ (l : List D) (o7 o9 o10 o11 o12 : Option D),
    (∀ o7 o9 o10 o11 o12, D'.nx [o0, o1, o2, o3, o4, some (.str (textW hs gs)), some (wD (srt House.nm hs) (srt Guest.nm gs)), o7, o8, o9, o10, o11, o12] E) →
    wFor (fun d s' E' k => 7 < List.length s' ∧ k (List.set s' 7 (some d)) E') (wSs pg.G (wC pg.G pg.F (k + 6)) f21_1) (fun _ => True) D' l
      [o0, o1, o2, o3, o4, some (.str (textW hs gs)), some (wD (srt House.nm hs) (srt Guest.nm gs)), o7, o8, o9, o10, o11, o12] E
  | [], o7, o9, o10, o11, o12, h => ⟨trivial, h _ _ _ _ _⟩
  | d :: l, o7, o9, o10, o11, o12, h => by
    have hr : ∀ o7 o9 o10 o11 o12, wFor (fun d s' E' k => 7 < List.length s' ∧ k (List.set s' 7 (some d)) E') (wSs pg.G (wC pg.G pg.F (k + 6)) f21_1) (fun _ => True) D' l
      [o0, o1, o2, o3, o4, some (.str (textW hs gs)), some (wD (srt House.nm hs) (srt Guest.nm gs)), o7, o8, o9, o10, o11, o12] E := fun o7 o9 o10 o11 o12 => turnL (k := k) w l o7 o9 o10 o11 o12 h
    refine ⟨trivial, (by (try simp only [List.length_cons, List.length_nil, List.length_map, List.length_append]); omega), ?_⟩
    dsimp only
    generalize wFor (fun d s' E' k => 7 < List.length s' ∧ k (List.set s' 7 (some d)) E') (wSs pg.G (wC pg.G pg.F (k + 6)) f21_1) (fun _ => True) D' l = W at hr ⊢
    simp only [f21_1]
    simp only [wSs, wS, wE, wA, wT, wB, wI, wG, wGs, tgsL, wipeD, startD, List.map_cons, List.map_nil, List.length_cons, List.length_nil, List.replicate, List.cons_append, List.nil_append, List.append_nil, List.set_cons_zero, List.set_cons_succ, List.set_nil, getv0, getvS, truR_bl, asI_i, asB_b, asS_s, asT_t, optI_0, optI_1, opt_some, ixR_tup, ixR_lst, ixR_set, ixR_str, asQ_tup, asQ_lst, asQ_set, asL_lst, asL_set, asC_set, lenR_tup, lenR_lst, lenR_str, lenR_set, atI0, atI1, atI2, ixN0, ixN2, lv_lst, lv_set, seq_lst, seq_tup, seq_str, bop_ai, bop_as, bop_al, bop_si, bop_mi, bop_ms, bop_mb, bop_mo, bop_fd, bop_pw, cmp_lti, cmp_lei, cmp_gti, cmp_gei, cmp_eqi, cmp_nei, cmp_eqs, cmp_nes, cmp_isin, cmp_nin, in_sign, in_tup, bm_app, bm_pop, bm_clear, bm_join, bm_split, bm_ends, bmT_app, bmT_pop, bmT_clear, bmT_join, bmT_split, bmT_ends, newL_f, newL_t, DL.bi_len, DL.bi_all, DL.bi_any, DL.bi_abs, DL.bi_max, DL.bi_min, DL.bi_inti, DL.bi_intb, DL.bi_str, DL.bi_repr, DL.bi_sorted, DL.bi_list, tr_non, tr_bl, tr_int, tr_str, tr_tup, tr_lst, DL.sl_str, DL.sl_lst, En.set_set, if_true, if_false, ite_true, ite_false, Bool.false_eq_true, Nat.zero_lt_succ, true_and, decide_true, decide_false, Bool.not_true, Bool.not_false, List.length_map, asBls_one, all_one]
    refine read_spec (k := k) w fun H G zs E' rd => ?_
    refine ⟨(by (try simp only [List.length_cons, List.length_nil, List.length_map, List.length_append]); omega), ?_⟩
    refine repr_K rd.wd (by rw [rd.ez0]; exact w.srt) ?_
    refine repr_K (wd_wD _ _ _) (by rw [frz_fst]; exact w.srt) ?_
    rw [frz_fst, rd.ez0, beq_self_eq_true]
    have h50 := w.hn
    have g50 := w.gn
    have hzl : zs.length = hs.length := by rw [← srt_len House.nm hs, ← rd.ez0, List.length_map]
    simp only [wSs, wS, wE, wA, wT, wB, wI, wG, wGs, tgsL, wipeD, startD, List.map_cons, List.map_nil, List.length_cons, List.length_nil, List.replicate, List.cons_append, List.nil_append, List.append_nil, List.set_cons_zero, List.set_cons_succ, List.set_nil, getv0, getvS, truR_bl, asI_i, asB_b, asS_s, asT_t, optI_0, optI_1, opt_some, ixR_tup, ixR_lst, ixR_set, ixR_str, asQ_tup, asQ_lst, asQ_set, asL_lst, asL_set, asC_set, lenR_tup, lenR_lst, lenR_str, lenR_set, atI0, atI1, atI2, ixN0, ixN2, lv_lst, lv_set, seq_lst, seq_tup, seq_str, bop_ai, bop_as, bop_al, bop_si, bop_mi, bop_ms, bop_mb, bop_mo, bop_fd, bop_pw, cmp_lti, cmp_lei, cmp_gti, cmp_gei, cmp_eqi, cmp_nei, cmp_eqs, cmp_nes, cmp_isin, cmp_nin, in_sign, in_tup, bm_app, bm_pop, bm_clear, bm_join, bm_split, bm_ends, bmT_app, bmT_pop, bmT_clear, bmT_join, bmT_split, bmT_ends, newL_f, newL_t, DL.bi_len, DL.bi_all, DL.bi_any, DL.bi_abs, DL.bi_max, DL.bi_min, DL.bi_inti, DL.bi_intb, DL.bi_str, DL.bi_repr, DL.bi_sorted, DL.bi_list, tr_non, tr_bl, tr_int, tr_str, tr_tup, tr_lst, DL.sl_str, DL.sl_lst, En.set_set, if_true, if_false, ite_true, ite_false, Bool.false_eq_true, Nat.zero_lt_succ, true_and, decide_true, decide_false, Bool.not_true, Bool.not_false, List.length_map, asBls_one, all_one]
    rw [seq_ref rd.eH]
    refine nosL (k := k + 6) (E0 := E) (H := H) (G := G) zs E' _ _ _ rd.le rd.eH rd.eG (fun z hz => ?_) fun E2 p10 p11 p12 q0 q1 q2 => ?_
    · obtain ⟨a, e1, e2, e3, e4, e5⟩ := rd.ez z hz
      refine ⟨a, _, e1, e2, e3, e4, e5, ?_⟩
      have := od_len w.srt z.1 (by rw [← rd.ez0]; exact List.mem_map_of_mem hz)
      rw [List.length_map]
      omega
    simp only [wSs, wS, wE, wA, wT, wB, wI, wG, wGs, tgsL, wipeD, startD, List.map_cons, List.map_nil, List.length_cons, List.length_nil, List.replicate, List.cons_append, List.nil_append, List.append_nil, List.set_cons_zero, List.set_cons_succ, List.set_nil, getv0, getvS, truR_bl, asI_i, asB_b, asS_s, asT_t, optI_0, optI_1, opt_some, ixR_tup, ixR_lst, ixR_set, ixR_str, asQ_tup, asQ_lst, asQ_set, asL_lst, asL_set, asC_set, lenR_tup, lenR_lst, lenR_str, lenR_set, atI0, atI1, atI2, ixN0, ixN2, lv_lst, lv_set, seq_lst, seq_tup, seq_str, bop_ai, bop_as, bop_al, bop_si, bop_mi, bop_ms, bop_mb, bop_mo, bop_fd, bop_pw, cmp_lti, cmp_lei, cmp_gti, cmp_gei, cmp_eqi, cmp_nei, cmp_eqs, cmp_nes, cmp_isin, cmp_nin, in_sign, in_tup, bm_app, bm_pop, bm_clear, bm_join, bm_split, bm_ends, bmT_app, bmT_pop, bmT_clear, bmT_join, bmT_split, bmT_ends, newL_f, newL_t, DL.bi_len, DL.bi_all, DL.bi_any, DL.bi_abs, DL.bi_max, DL.bi_min, DL.bi_inti, DL.bi_intb, DL.bi_str, DL.bi_repr, DL.bi_sorted, DL.bi_list, tr_non, tr_bl, tr_int, tr_str, tr_tup, tr_lst, DL.sl_str, DL.sl_lst, En.set_set, if_true, if_false, ite_true, ite_false, Bool.false_eq_true, Nat.zero_lt_succ, true_and, decide_true, decide_false, Bool.not_true, Bool.not_false, List.length_map, asBls_one, all_one]
    rw [asL_ref q1, asC_ref q1]
    try simp only [wSs, wS, wE, wA, wT, wB, wI, wG, wGs, tgsL, wipeD, startD, List.map_cons, List.map_nil, List.length_cons, List.length_nil, List.replicate, List.cons_append, List.nil_append, List.append_nil, List.set_cons_zero, List.set_cons_succ, List.set_nil, getv0, getvS, truR_bl, asI_i, asB_b, asS_s, asT_t, optI_0, optI_1, opt_some, ixR_tup, ixR_lst, ixR_set, ixR_str, asQ_tup, asQ_lst, asQ_set, asL_lst, asL_set, asC_set, lenR_tup, lenR_lst, lenR_str, lenR_set, atI0, atI1, atI2, ixN0, ixN2, lv_lst, lv_set, seq_lst, seq_tup, seq_str, bop_ai, bop_as, bop_al, bop_si, bop_mi, bop_ms, bop_mb, bop_mo, bop_fd, bop_pw, cmp_lti, cmp_lei, cmp_gti, cmp_gei, cmp_eqi, cmp_nei, cmp_eqs, cmp_nes, cmp_isin, cmp_nin, in_sign, in_tup, bm_app, bm_pop, bm_clear, bm_join, bm_split, bm_ends, bmT_app, bmT_pop, bmT_clear, bmT_join, bmT_split, bmT_ends, newL_f, newL_t, DL.bi_len, DL.bi_all, DL.bi_any, DL.bi_abs, DL.bi_max, DL.bi_min, DL.bi_inti, DL.bi_intb, DL.bi_str, DL.bi_repr, DL.bi_sorted, DL.bi_list, tr_non, tr_bl, tr_int, tr_str, tr_tup, tr_lst, DL.sl_str, DL.sl_lst, En.set_set, if_true, if_false, ite_true, ite_false, Bool.false_eq_true, Nat.zero_lt_succ, true_and, decide_true, decide_false, Bool.not_true, Bool.not_false, List.length_map, asBls_one, all_one]
    have q3 : (E2.set H (.lst [])) G = some (.lst ((srt Guest.nm gs).map gD)) := by rw [En.set_ne _ _ rd.ne.symm]; exact q2
    rw [asL_ref q3, asC_ref q3]
    refine ⟨by rw [List.length_map, srt_len]; omega, E, ?_, hr _ _ _ _ _⟩
    exact le_set_new (le_set_new q0 rd.nH) rd.nG
theorem revW {hs : List House} {gs : List Guest} (w : WOk hs gs) : WOk hs.reverse gs.reverse := w.perm (List.reverse_perm _) (List.reverse_perm _)
theorem lapL {k : Nat} {D' : EndD} {o0 : Option D} {p : Addr} {b : Nat} : ∀ (l : List D) (E : En) (t : Int × Int × Int) (o2 o3 o4 o5 o6 o7 o8 o9 o10 o11 o12 : Option D), E p = some (potC t) → PV (b + l.length * 2000) t →
    (∀ E t o2 o3 o4 o5 o6 o7 o8 o9 o10 o11 o12, E p = some (potC t) → D'.nx [o0, some (.ref p), o2, o3, o4, o5, o6, o7, o8, o9, o10, o11, o12] E) →
    wFor (fun d s' E' k => 2 < List.length s' ∧ k (List.set s' 2 (some d)) E') (wSs pg.G (wC pg.G pg.F (k + 6)) f21_2) (fun _ => True) D' l
      [o0, some (.ref p), o2, o3, o4, o5, o6, o7, o8, o9, o10, o11, o12] E := by
  intro l
  induction l with
  | nil =>
    intro E t o2 o3 o4 o5 o6 o7 o8 o9 o10 o11 o12 hp hv h
    exact ⟨trivial, h _ _ _ _ _ _ _ _ _ _ _ _ _ hp⟩
  | cons d l ih =>
    intro E t o2 o3 o4 o5 o6 o7 o8 o9 o10 o11 o12 hp hv h
    rw [List.length_cons] at hv
    have fin : ∀ E t o2 o3 o4 o5 o6 o7 o8 o9 o10 o11 o12, E p = some (potC t) → PV (b + l.length * 2000) t → wFor (fun d s' E' k => 2 < List.length s' ∧ k (List.set s' 2 (some d)) E') (wSs pg.G (wC pg.G pg.F (k + 6)) f21_2) (fun _ => True) D' l
      [o0, some (.ref p), o2, o3, o4, o5, o6, o7, o8, o9, o10, o11, o12] E := fun E t o2 o3 o4 o5 o6 o7 o8 o9 o10 o11 o12 hp hv => ih E t o2 o3 o4 o5 o6 o7 o8 o9 o10 o11 o12 hp hv h
    refine ⟨trivial, (by (try simp only [List.length_cons, List.length_nil, List.length_map, List.length_append]); omega), ?_⟩
    dsimp only
    generalize wFor (fun d s' E' k => 2 < List.length s' ∧ k (List.set s' 2 (some d)) E') (wSs pg.G (wC pg.G pg.F (k + 6)) f21_2) (fun _ => True) D' l = W at fin ⊢
    simp only [f21_2]
    simp only [wSs, wS, wE, wA, wT, wB, wI, wG, wGs, tgsL, wipeD, startD, List.map_cons, List.map_nil, List.length_cons, List.length_nil, List.replicate, List.cons_append, List.nil_append, List.append_nil, List.set_cons_zero, List.set_cons_succ, List.set_nil, getv0, getvS, truR_bl, asI_i, asB_b, asS_s, asT_t, optI_0, optI_1, opt_some, ixR_tup, ixR_lst, ixR_set, ixR_str, asQ_tup, asQ_lst, asQ_set, asL_lst, asL_set, asC_set, lenR_tup, lenR_lst, lenR_str, lenR_set, atI0, atI1, atI2, ixN0, ixN2, lv_lst, lv_set, seq_lst, seq_tup, seq_str, bop_ai, bop_as, bop_al, bop_si, bop_mi, bop_ms, bop_mb, bop_mo, bop_fd, bop_pw, cmp_lti, cmp_lei, cmp_gti, cmp_gei, cmp_eqi, cmp_nei, cmp_eqs, cmp_nes, cmp_isin, cmp_nin, in_sign, in_tup, bm_app, bm_pop, bm_clear, bm_join, bm_split, bm_ends, bmT_app, bmT_pop, bmT_clear, bmT_join, bmT_split, bmT_ends, newL_f, newL_t, DL.bi_len, DL.bi_all, DL.bi_any, DL.bi_abs, DL.bi_max, DL.bi_min, DL.bi_inti, DL.bi_intb, DL.bi_str, DL.bi_repr, DL.bi_sorted, DL.bi_list, tr_non, tr_bl, tr_int, tr_str, tr_tup, tr_lst, DL.sl_str, DL.sl_lst, En.set_set, if_true, if_false, ite_true, ite_false, Bool.false_eq_true, Nat.zero_lt_succ, true_and, decide_true, decide_false, Bool.not_true, Bool.not_false, List.length_map, asBls_one, all_one]
    refine ⟨(by (try simp only [List.length_cons, List.length_nil, List.length_map, List.length_append]); omega), scoop_spec (t := t) (b := b + l.length * 2000 + 1999) hp (hv.mono (by omega)) (by decide) (by decide) fun v t1 v0 v1 hv1 => ?_⟩
    have hm : ∃ m : Nat, atI [D.int 2, D.int 9] v = some (.int m) ∧ m ≤ 9 := by
      have : v = 0 ∨ v = 1 := by omega
      rcases this with rfl | rfl
      · exact ⟨2, rfl, by decide⟩
      · exact ⟨9, rfl, by decide⟩
    obtain ⟨m, e1, e2⟩ := hm
    try simp only [wSs, wS, wE, wA, wT, wB, wI, wG, wGs, tgsL, wipeD, startD, List.map_cons, List.map_nil, List.length_cons, List.length_nil, List.replicate, List.cons_append, List.nil_append, List.append_nil, List.set_cons_zero, List.set_cons_succ, List.set_nil, getv0, getvS, truR_bl, asI_i, asB_b, asS_s, asT_t, optI_0, optI_1, opt_some, ixR_tup, ixR_lst, ixR_set, ixR_str, asQ_tup, asQ_lst, asQ_set, asL_lst, asL_set, asC_set, lenR_tup, lenR_lst, lenR_str, lenR_set, atI0, atI1, atI2, ixN0, ixN2, lv_lst, lv_set, seq_lst, seq_tup, seq_str, bop_ai, bop_as, bop_al, bop_si, bop_mi, bop_ms, bop_mb, bop_mo, bop_fd, bop_pw, cmp_lti, cmp_lei, cmp_gti, cmp_gei, cmp_eqi, cmp_nei, cmp_eqs, cmp_nes, cmp_isin, cmp_nin, in_sign, in_tup, bm_app, bm_pop, bm_clear, bm_join, bm_split, bm_ends, bmT_app, bmT_pop, bmT_clear, bmT_join, bmT_split, bmT_ends, newL_f, newL_t, DL.bi_len, DL.bi_all, DL.bi_any, DL.bi_abs, DL.bi_max, DL.bi_min, DL.bi_inti, DL.bi_intb, DL.bi_str, DL.bi_repr, DL.bi_sorted, DL.bi_list, tr_non, tr_bl, tr_int, tr_str, tr_tup, tr_lst, DL.sl_str, DL.sl_lst, En.set_set, if_true, if_false, ite_true, ite_false, Bool.false_eq_true, Nat.zero_lt_succ, true_and, decide_true, decide_false, Bool.not_true, Bool.not_false, List.length_map, asBls_one, all_one]
    rw [e1]
    simp only [wSs, wS, wE, wA, wT, wB, wI, wG, wGs, tgsL, wipeD, startD, List.map_cons, List.map_nil, List.length_cons, List.length_nil, List.replicate, List.cons_append, List.nil_append, List.append_nil, List.set_cons_zero, List.set_cons_succ, List.set_nil, getv0, getvS, truR_bl, asI_i, asB_b, asS_s, asT_t, optI_0, optI_1, opt_some, ixR_tup, ixR_lst, ixR_set, ixR_str, asQ_tup, asQ_lst, asQ_set, asL_lst, asL_set, asC_set, lenR_tup, lenR_lst, lenR_str, lenR_set, atI0, atI1, atI2, ixN0, ixN2, lv_lst, lv_set, seq_lst, seq_tup, seq_str, bop_ai, bop_as, bop_al, bop_si, bop_mi, bop_ms, bop_mb, bop_mo, bop_fd, bop_pw, cmp_lti, cmp_lei, cmp_gti, cmp_gei, cmp_eqi, cmp_nei, cmp_eqs, cmp_nes, cmp_isin, cmp_nin, in_sign, in_tup, bm_app, bm_pop, bm_clear, bm_join, bm_split, bm_ends, bmT_app, bmT_pop, bmT_clear, bmT_join, bmT_split, bmT_ends, newL_f, newL_t, DL.bi_len, DL.bi_all, DL.bi_any, DL.bi_abs, DL.bi_max, DL.bi_min, DL.bi_inti, DL.bi_intb, DL.bi_str, DL.bi_repr, DL.bi_sorted, DL.bi_list, tr_non, tr_bl, tr_int, tr_str, tr_tup, tr_lst, DL.sl_str, DL.sl_lst, En.set_set, if_true, if_false, ite_true, ite_false, Bool.false_eq_true, Nat.zero_lt_succ, true_and, decide_true, decide_false, Bool.not_true, Bool.not_false, List.length_map, asBls_one, all_one]
    refine town_spec (m := m) (t := t1) (b := b + l.length * 2000) (En.set_same _ _ _) (hv1.mono (by omega)) e2 fun hs gs t2 w hv2 => ?_
    rw [En.set_set]
    have hE : (E.set p (potC t2)) p = some (potC t2) := En.set_same _ _ _
    generalize E.set p (potC t2) = E at hE
    simp only [wSs, wS, wE, wA, wT, wB, wI, wG, wGs, tgsL, wipeD, startD, List.map_cons, List.map_nil, List.length_cons, List.length_nil, List.replicate, List.cons_append, List.nil_append, List.append_nil, List.set_cons_zero, List.set_cons_succ, List.set_nil, getv0, getvS, truR_bl, asI_i, asB_b, asS_s, asT_t, optI_0, optI_1, opt_some, ixR_tup, ixR_lst, ixR_set, ixR_str, asQ_tup, asQ_lst, asQ_set, asL_lst, asL_set, asC_set, lenR_tup, lenR_lst, lenR_str, lenR_set, atI0, atI1, atI2, ixN0, ixN2, lv_lst, lv_set, seq_lst, seq_tup, seq_str, bop_ai, bop_as, bop_al, bop_si, bop_mi, bop_ms, bop_mb, bop_mo, bop_fd, bop_pw, cmp_lti, cmp_lei, cmp_gti, cmp_gei, cmp_eqi, cmp_nei, cmp_eqs, cmp_nes, cmp_isin, cmp_nin, in_sign, in_tup, bm_app, bm_pop, bm_clear, bm_join, bm_split, bm_ends, bmT_app, bmT_pop, bmT_clear, bmT_join, bmT_split, bmT_ends, newL_f, newL_t, DL.bi_len, DL.bi_all, DL.bi_any, DL.bi_abs, DL.bi_max, DL.bi_min, DL.bi_inti, DL.bi_intb, DL.bi_str, DL.bi_repr, DL.bi_sorted, DL.bi_list, tr_non, tr_bl, tr_int, tr_str, tr_tup, tr_lst, DL.sl_str, DL.sl_lst, En.set_set, if_true, if_false, ite_true, ite_false, Bool.false_eq_true, Nat.zero_lt_succ, true_and, decide_true, decide_false, Bool.not_true, Bool.not_false, List.length_map, asBls_one, all_one]
    refine ⟨(by (try simp only [List.length_cons, List.length_nil, List.length_map, List.length_append]); omega), ?_⟩
    rw [show D.tup [D.lst (hs.map hD), D.lst (gs.map gD)] = wD hs gs from rfl]
    refine repr_K (wd_wD _ hs gs) (by rw [frz_fst]; exact w) ?_
    rw [frz_fst]
    refine ⟨(by (try simp only [List.length_cons, List.length_nil, List.length_map, List.length_append]); omega), ?_⟩
    refine text_spec (k := k + 5) w.tk ?_
    have htl := textW_len w
    simp only [wSs, wS, wE, wA, wT, wB, wI, wG, wGs, tgsL, wipeD, startD, List.map_cons, List.map_nil, List.length_cons, List.length_nil, List.replicate, List.cons_append, List.nil_append, List.append_nil, List.set_cons_zero, List.set_cons_succ, List.set_nil, getv0, getvS, truR_bl, asI_i, asB_b, asS_s, asT_t, optI_0, optI_1, opt_some, ixR_tup, ixR_lst, ixR_set, ixR_str, asQ_tup, asQ_lst, asQ_set, asL_lst, asL_set, asC_set, lenR_tup, lenR_lst, lenR_str, lenR_set, atI0, atI1, atI2, ixN0, ixN2, lv_lst, lv_set, seq_lst, seq_tup, seq_str, bop_ai, bop_as, bop_al, bop_si, bop_mi, bop_ms, bop_mb, bop_mo, bop_fd, bop_pw, cmp_lti, cmp_lei, cmp_gti, cmp_gei, cmp_eqi, cmp_nei, cmp_eqs, cmp_nes, cmp_isin, cmp_nin, in_sign, in_tup, bm_app, bm_pop, bm_clear, bm_join, bm_split, bm_ends, bmT_app, bmT_pop, bmT_clear, bmT_join, bmT_split, bmT_ends, newL_f, newL_t, DL.bi_len, DL.bi_all, DL.bi_any, DL.bi_abs, DL.bi_max, DL.bi_min, DL.bi_inti, DL.bi_intb, DL.bi_str, DL.bi_repr, DL.bi_sorted, DL.bi_list, tr_non, tr_bl, tr_int, tr_str, tr_tup, tr_lst, DL.sl_str, DL.sl_lst, En.set_set, if_true, if_false, ite_true, ite_false, Bool.false_eq_true, Nat.zero_lt_succ, true_and, decide_true, decide_false, Bool.not_true, Bool.not_false, List.length_map, asBls_one, all_one]
    refine ⟨(by (try simp only [List.length_cons, List.length_nil, List.length_map, List.length_append]); omega), ?_⟩
    refine sort_h w.tk.hn w.hn ?_
    refine sort_g w.tk.gn w.gn ?_
    rw [show D.tup [D.lst ((srt House.nm hs).map hD), D.lst ((srt Guest.nm gs).map gD)] = wD (srt House.nm hs) (srt Guest.nm gs) from rfl]
    refine ⟨(by (try simp only [List.length_cons, List.length_nil, List.length_map, List.length_append]); omega), (by (try simp only [List.length_cons, List.length_nil, List.length_map, List.length_append]); omega), by omega, ?_⟩
    by_cases h2 : ((textW hs gs).length : Int) < 2001
    · rw [decide_eq_true h2, if_pos rfl]
      refine show_spec (k := k + 1) (wd_wD _ hs gs) (by rw [frz_fst]; exact w) ?_
      rw [frz_fst, cmp_nes, beq_self_eq_true]
      try simp only [wSs, wS, wE, wA, wT, wB, wI, wG, wGs, tgsL, wipeD, startD, List.map_cons, List.map_nil, List.length_cons, List.length_nil, List.replicate, List.cons_append, List.nil_append, List.append_nil, List.set_cons_zero, List.set_cons_succ, List.set_nil, getv0, getvS, truR_bl, asI_i, asB_b, asS_s, asT_t, optI_0, optI_1, opt_some, ixR_tup, ixR_lst, ixR_set, ixR_str, asQ_tup, asQ_lst, asQ_set, asL_lst, asL_set, asC_set, lenR_tup, lenR_lst, lenR_str, lenR_set, atI0, atI1, atI2, ixN0, ixN2, lv_lst, lv_set, seq_lst, seq_tup, seq_str, bop_ai, bop_as, bop_al, bop_si, bop_mi, bop_ms, bop_mb, bop_mo, bop_fd, bop_pw, cmp_lti, cmp_lei, cmp_gti, cmp_gei, cmp_eqi, cmp_nei, cmp_eqs, cmp_nes, cmp_isin, cmp_nin, in_sign, in_tup, bm_app, bm_pop, bm_clear, bm_join, bm_split, bm_ends, bmT_app, bmT_pop, bmT_clear, bmT_join, bmT_split, bmT_ends, newL_f, newL_t, DL.bi_len, DL.bi_all, DL.bi_any, DL.bi_abs, DL.bi_max, DL.bi_min, DL.bi_inti, DL.bi_intb, DL.bi_str, DL.bi_repr, DL.bi_sorted, DL.bi_list, tr_non, tr_bl, tr_int, tr_str, tr_tup, tr_lst, DL.sl_str, DL.sl_lst, En.set_set, if_true, if_false, ite_true, ite_false, Bool.false_eq_true, Nat.zero_lt_succ, true_and, decide_true, decide_false, Bool.not_true, Bool.not_false, List.length_map, asBls_one, all_one]
      refine show_spec (k := k + 1) (wd_wD _ (srt House.nm hs) (srt Guest.nm gs)) (by rw [frz_fst]; exact w.srt) ?_
      rw [frz_fst, textW_srt w, cmp_nes, beq_self_eq_true]
      try simp only [wSs, wS, wE, wA, wT, wB, wI, wG, wGs, tgsL, wipeD, startD, List.map_cons, List.map_nil, List.length_cons, List.length_nil, List.replicate, List.cons_append, List.nil_append, List.append_nil, List.set_cons_zero, List.set_cons_succ, List.set_nil, getv0, getvS, truR_bl, asI_i, asB_b, asS_s, asT_t, optI_0, optI_1, opt_some, ixR_tup, ixR_lst, ixR_set, ixR_str, asQ_tup, asQ_lst, asQ_set, asL_lst, asL_set, asC_set, lenR_tup, lenR_lst, lenR_str, lenR_set, atI0, atI1, atI2, ixN0, ixN2, lv_lst, lv_set, seq_lst, seq_tup, seq_str, bop_ai, bop_as, bop_al, bop_si, bop_mi, bop_ms, bop_mb, bop_mo, bop_fd, bop_pw, cmp_lti, cmp_lei, cmp_gti, cmp_gei, cmp_eqi, cmp_nei, cmp_eqs, cmp_nes, cmp_isin, cmp_nin, in_sign, in_tup, bm_app, bm_pop, bm_clear, bm_join, bm_split, bm_ends, bmT_app, bmT_pop, bmT_clear, bmT_join, bmT_split, bmT_ends, newL_f, newL_t, DL.bi_len, DL.bi_all, DL.bi_any, DL.bi_abs, DL.bi_max, DL.bi_min, DL.bi_inti, DL.bi_intb, DL.bi_str, DL.bi_repr, DL.bi_sorted, DL.bi_list, tr_non, tr_bl, tr_int, tr_str, tr_tup, tr_lst, DL.sl_str, DL.sl_lst, En.set_set, if_true, if_false, ite_true, ite_false, Bool.false_eq_true, Nat.zero_lt_succ, true_and, decide_true, decide_false, Bool.not_true, Bool.not_false, List.length_map, asBls_one, all_one]
      refine repr_K (wd_wD _ hs gs) (by rw [frz_fst]; exact w) ?_
      rw [frz_fst, beq_self_eq_true]
      try simp only [wSs, wS, wE, wA, wT, wB, wI, wG, wGs, tgsL, wipeD, startD, List.map_cons, List.map_nil, List.length_cons, List.length_nil, List.replicate, List.cons_append, List.nil_append, List.append_nil, List.set_cons_zero, List.set_cons_succ, List.set_nil, getv0, getvS, truR_bl, asI_i, asB_b, asS_s, asT_t, optI_0, optI_1, opt_some, ixR_tup, ixR_lst, ixR_set, ixR_str, asQ_tup, asQ_lst, asQ_set, asL_lst, asL_set, asC_set, lenR_tup, lenR_lst, lenR_str, lenR_set, atI0, atI1, atI2, ixN0, ixN2, lv_lst, lv_set, seq_lst, seq_tup, seq_str, bop_ai, bop_as, bop_al, bop_si, bop_mi, bop_ms, bop_mb, bop_mo, bop_fd, bop_pw, cmp_lti, cmp_lei, cmp_gti, cmp_gei, cmp_eqi, cmp_nei, cmp_eqs, cmp_nes, cmp_isin, cmp_nin, in_sign, in_tup, bm_app, bm_pop, bm_clear, bm_join, bm_split, bm_ends, bmT_app, bmT_pop, bmT_clear, bmT_join, bmT_split, bmT_ends, newL_f, newL_t, DL.bi_len, DL.bi_all, DL.bi_any, DL.bi_abs, DL.bi_max, DL.bi_min, DL.bi_inti, DL.bi_intb, DL.bi_str, DL.bi_repr, DL.bi_sorted, DL.bi_list, tr_non, tr_bl, tr_int, tr_str, tr_tup, tr_lst, DL.sl_str, DL.sl_lst, En.set_set, if_true, if_false, ite_true, ite_false, Bool.false_eq_true, Nat.zero_lt_succ, true_and, decide_true, decide_false, Bool.not_true, Bool.not_false, List.length_map, asBls_one, all_one]
      refine ⟨by decide, by decide, ?_⟩
      refine turnL (k := k) w _ _ _ _ _ _ fun o7 o9 o10 o11 o12 => ?_
      have h50 := w.hn
      have g50 := w.gn
      unfold wD
      simp only [wSs, wS, wE, wA, wT, wB, wI, wG, wGs, tgsL, wipeD, startD, List.map_cons, List.map_nil, List.length_cons, List.length_nil, List.replicate, List.cons_append, List.nil_append, List.append_nil, List.set_cons_zero, List.set_cons_succ, List.set_nil, getv0, getvS, truR_bl, asI_i, asB_b, asS_s, asT_t, optI_0, optI_1, opt_some, ixR_tup, ixR_lst, ixR_set, ixR_str, asQ_tup, asQ_lst, asQ_set, asL_lst, asL_set, asC_set, lenR_tup, lenR_lst, lenR_str, lenR_set, atI0, atI1, atI2, ixN0, ixN2, lv_lst, lv_set, seq_lst, seq_tup, seq_str, bop_ai, bop_as, bop_al, bop_si, bop_mi, bop_ms, bop_mb, bop_mo, bop_fd, bop_pw, cmp_lti, cmp_lei, cmp_gti, cmp_gei, cmp_eqi, cmp_nei, cmp_eqs, cmp_nes, cmp_isin, cmp_nin, in_sign, in_tup, bm_app, bm_pop, bm_clear, bm_join, bm_split, bm_ends, bmT_app, bmT_pop, bmT_clear, bmT_join, bmT_split, bmT_ends, newL_f, newL_t, DL.bi_len, DL.bi_all, DL.bi_any, DL.bi_abs, DL.bi_max, DL.bi_min, DL.bi_inti, DL.bi_intb, DL.bi_str, DL.bi_repr, DL.bi_sorted, DL.bi_list, tr_non, tr_bl, tr_int, tr_str, tr_tup, tr_lst, DL.sl_str, DL.sl_lst, En.set_set, if_true, if_false, ite_true, ite_false, Bool.false_eq_true, Nat.zero_lt_succ, true_and, decide_true, decide_false, Bool.not_true, Bool.not_false, List.length_map, asBls_one, all_one]
      rw [← List.map_reverse, ← List.map_reverse]
      rw [show D.tup [D.lst (hs.reverse.map hD), D.lst (gs.reverse.map gD)] = wD hs.reverse gs.reverse from rfl]
      refine ⟨by (try simp only [List.length_map, List.length_reverse]); omega, by (try simp only [List.length_map, List.length_reverse]); omega, (by (try simp only [List.length_cons, List.length_nil, List.length_map, List.length_append]); omega), (by (try simp only [List.length_cons, List.length_nil, List.length_map, List.length_append]); omega), ?_⟩
      refine show_spec (k := k + 1) (wd_wD _ hs.reverse gs.reverse) (by rw [frz_fst]; exact revW w) ?_
      rw [frz_fst, textW_perm w (List.reverse_perm _) (List.reverse_perm _), cmp_nes, beq_self_eq_true]
      try simp only [wSs, wS, wE, wA, wT, wB, wI, wG, wGs, tgsL, wipeD, startD, List.map_cons, List.map_nil, List.length_cons, List.length_nil, List.replicate, List.cons_append, List.nil_append, List.append_nil, List.set_cons_zero, List.set_cons_succ, List.set_nil, getv0, getvS, truR_bl, asI_i, asB_b, asS_s, asT_t, optI_0, optI_1, opt_some, ixR_tup, ixR_lst, ixR_set, ixR_str, asQ_tup, asQ_lst, asQ_set, asL_lst, asL_set, asC_set, lenR_tup, lenR_lst, lenR_str, lenR_set, atI0, atI1, atI2, ixN0, ixN2, lv_lst, lv_set, seq_lst, seq_tup, seq_str, bop_ai, bop_as, bop_al, bop_si, bop_mi, bop_ms, bop_mb, bop_mo, bop_fd, bop_pw, cmp_lti, cmp_lei, cmp_gti, cmp_gei, cmp_eqi, cmp_nei, cmp_eqs, cmp_nes, cmp_isin, cmp_nin, in_sign, in_tup, bm_app, bm_pop, bm_clear, bm_join, bm_split, bm_ends, bmT_app, bmT_pop, bmT_clear, bmT_join, bmT_split, bmT_ends, newL_f, newL_t, DL.bi_len, DL.bi_all, DL.bi_any, DL.bi_abs, DL.bi_max, DL.bi_min, DL.bi_inti, DL.bi_intb, DL.bi_str, DL.bi_repr, DL.bi_sorted, DL.bi_list, tr_non, tr_bl, tr_int, tr_str, tr_tup, tr_lst, DL.sl_str, DL.sl_lst, En.set_set, if_true, if_false, ite_true, ite_false, Bool.false_eq_true, Nat.zero_lt_succ, true_and, decide_true, decide_false, Bool.not_true, Bool.not_false, List.length_map, asBls_one, all_one]
      exact ⟨E, En.le_refl _, fin E t2 _ _ _ _ _ _ _ _ _ _ _ hE hv2⟩
    · rw [decide_eq_false h2]
      exact ⟨E, En.le_refl _, fin E t2 _ _ _ _ _ _ _ _ _ _ _ hE hv2⟩
theorem w_nil : WOk [] [] where
  nd := by decide
  gg := fun _ h => nomatch h
  gh := fun _ h => nomatch h
  rm := fun _ h => nomatch h
  od := fun _ h => nomatch h
  hn := by decide
  gn := by decide
theorem text_nil : textW [] [] = [] := by
  unfold textW rowsW srt
  simp [TL.joinL]
theorem law_spec : ∀ ns : List Int, ns.length ≤ 63 → wC pg.G pg.F 20 i_law [.lst (ns.map .int)] (fun _ => none) (fun d _ => d = .bl true) fun _ _ => False := by
  intro ns hl
  refine wC_go (fn := ⟨1, 13, b21⟩) rfl rfl ?_
  simp only [b21]
  simp only [wSs, wS, wE, wA, wT, wB, wI, wG, wGs, tgsL, wipeD, startD, List.map_cons, List.map_nil, List.length_cons, List.length_nil, List.replicate, List.cons_append, List.nil_append, List.append_nil, List.set_cons_zero, List.set_cons_succ, List.set_nil, getv0, getvS, truR_bl, asI_i, asB_b, asS_s, asT_t, optI_0, optI_1, opt_some, ixR_tup, ixR_lst, ixR_set, ixR_str, asQ_tup, asQ_lst, asQ_set, asL_lst, asL_set, asC_set, lenR_tup, lenR_lst, lenR_str, lenR_set, atI0, atI1, atI2, ixN0, ixN2, lv_lst, lv_set, seq_lst, seq_tup, seq_str, bop_ai, bop_as, bop_al, bop_si, bop_mi, bop_ms, bop_mb, bop_mo, bop_fd, bop_pw, cmp_lti, cmp_lei, cmp_gti, cmp_gei, cmp_eqi, cmp_nei, cmp_eqs, cmp_nes, cmp_isin, cmp_nin, in_sign, in_tup, bm_app, bm_pop, bm_clear, bm_join, bm_split, bm_ends, bmT_app, bmT_pop, bmT_clear, bmT_join, bmT_split, bmT_ends, newL_f, newL_t, DL.bi_len, DL.bi_all, DL.bi_any, DL.bi_abs, DL.bi_max, DL.bi_min, DL.bi_inti, DL.bi_intb, DL.bi_str, DL.bi_repr, DL.bi_sorted, DL.bi_list, tr_non, tr_bl, tr_int, tr_str, tr_tup, tr_lst, DL.sl_str, DL.sl_lst, En.set_set, if_true, if_false, ite_true, ite_false, Bool.false_eq_true, Nat.zero_lt_succ, true_and, decide_true, decide_false, Bool.not_true, Bool.not_false, List.length_map, asBls_one, all_one]
  refine pot_spec (k := 18) hl fun p t hp hv => ?_
  try simp only [wSs, wS, wE, wA, wT, wB, wI, wG, wGs, tgsL, wipeD, startD, List.map_cons, List.map_nil, List.length_cons, List.length_nil, List.replicate, List.cons_append, List.nil_append, List.append_nil, List.set_cons_zero, List.set_cons_succ, List.set_nil, getv0, getvS, truR_bl, asI_i, asB_b, asS_s, asT_t, optI_0, optI_1, opt_some, ixR_tup, ixR_lst, ixR_set, ixR_str, asQ_tup, asQ_lst, asQ_set, asL_lst, asL_set, asC_set, lenR_tup, lenR_lst, lenR_str, lenR_set, atI0, atI1, atI2, ixN0, ixN2, lv_lst, lv_set, seq_lst, seq_tup, seq_str, bop_ai, bop_as, bop_al, bop_si, bop_mi, bop_ms, bop_mb, bop_mo, bop_fd, bop_pw, cmp_lti, cmp_lei, cmp_gti, cmp_gei, cmp_eqi, cmp_nei, cmp_eqs, cmp_nes, cmp_isin, cmp_nin, in_sign, in_tup, bm_app, bm_pop, bm_clear, bm_join, bm_split, bm_ends, bmT_app, bmT_pop, bmT_clear, bmT_join, bmT_split, bmT_ends, newL_f, newL_t, DL.bi_len, DL.bi_all, DL.bi_any, DL.bi_abs, DL.bi_max, DL.bi_min, DL.bi_inti, DL.bi_intb, DL.bi_str, DL.bi_repr, DL.bi_sorted, DL.bi_list, tr_non, tr_bl, tr_int, tr_str, tr_tup, tr_lst, DL.sl_str, DL.sl_lst, En.set_set, if_true, if_false, ite_true, ite_false, Bool.false_eq_true, Nat.zero_lt_succ, true_and, decide_true, decide_false, Bool.not_true, Bool.not_false, List.length_map, asBls_one, all_one]
  refine ⟨(by (try simp only [List.length_cons, List.length_nil, List.length_map, List.length_append]); omega), wide_spec (k := 12) (b := 2 ^ 50 - 3000) (t := t) (En.set_same _ _ _) (hv.mono (by decide)) fun t1 hv1 => ?_⟩
  rw [En.set_set]
  try simp only [wSs, wS, wE, wA, wT, wB, wI, wG, wGs, tgsL, wipeD, startD, List.map_cons, List.map_nil, List.length_cons, List.length_nil, List.replicate, List.cons_append, List.nil_append, List.append_nil, List.set_cons_zero, List.set_cons_succ, List.set_nil, getv0, getvS, truR_bl, asI_i, asB_b, asS_s, asT_t, optI_0, optI_1, opt_some, ixR_tup, ixR_lst, ixR_set, ixR_str, asQ_tup, asQ_lst, asQ_set, asL_lst, asL_set, asC_set, lenR_tup, lenR_lst, lenR_str, lenR_set, atI0, atI1, atI2, ixN0, ixN2, lv_lst, lv_set, seq_lst, seq_tup, seq_str, bop_ai, bop_as, bop_al, bop_si, bop_mi, bop_ms, bop_mb, bop_mo, bop_fd, bop_pw, cmp_lti, cmp_lei, cmp_gti, cmp_gei, cmp_eqi, cmp_nei, cmp_eqs, cmp_nes, cmp_isin, cmp_nin, in_sign, in_tup, bm_app, bm_pop, bm_clear, bm_join, bm_split, bm_ends, bmT_app, bmT_pop, bmT_clear, bmT_join, bmT_split, bmT_ends, newL_f, newL_t, DL.bi_len, DL.bi_all, DL.bi_any, DL.bi_abs, DL.bi_max, DL.bi_min, DL.bi_inti, DL.bi_intb, DL.bi_str, DL.bi_repr, DL.bi_sorted, DL.bi_list, tr_non, tr_bl, tr_int, tr_str, tr_tup, tr_lst, DL.sl_str, DL.sl_lst, En.set_set, if_true, if_false, ite_true, ite_false, Bool.false_eq_true, Nat.zero_lt_succ, true_and, decide_true, decide_false, Bool.not_true, Bool.not_false, List.length_map, asBls_one, all_one]
  refine ⟨by decide, by decide, ?_⟩
  refine lapL (k := 13) (b := 0) _ _ t1 _ _ _ _ _ _ _ _ _ _ _ (En.set_same _ _ _) (hv1.mono (by rw [rngD_len]; decide)) fun E t2 o2 o3 o4 o5 o6 o7 o8 o9 o10 o11 o12 hE => ?_
  simp only [wSs, wS, wE, wA, wT, wB, wI, wG, wGs, tgsL, wipeD, startD, List.map_cons, List.map_nil, List.length_cons, List.length_nil, List.replicate, List.cons_append, List.nil_append, List.append_nil, List.set_cons_zero, List.set_cons_succ, List.set_nil, getv0, getvS, truR_bl, asI_i, asB_b, asS_s, asT_t, optI_0, optI_1, opt_some, ixR_tup, ixR_lst, ixR_set, ixR_str, asQ_tup, asQ_lst, asQ_set, asL_lst, asL_set, asC_set, lenR_tup, lenR_lst, lenR_str, lenR_set, atI0, atI1, atI2, ixN0, ixN2, lv_lst, lv_set, seq_lst, seq_tup, seq_str, bop_ai, bop_as, bop_al, bop_si, bop_mi, bop_ms, bop_mb, bop_mo, bop_fd, bop_pw, cmp_lti, cmp_lei, cmp_gti, cmp_gei, cmp_eqi, cmp_nei, cmp_eqs, cmp_nes, cmp_isin, cmp_nin, in_sign, in_tup, bm_app, bm_pop, bm_clear, bm_join, bm_split, bm_ends, bmT_app, bmT_pop, bmT_clear, bmT_join, bmT_split, bmT_ends, newL_f, newL_t, DL.bi_len, DL.bi_all, DL.bi_any, DL.bi_abs, DL.bi_max, DL.bi_min, DL.bi_inti, DL.bi_intb, DL.bi_str, DL.bi_repr, DL.bi_sorted, DL.bi_list, tr_non, tr_bl, tr_int, tr_str, tr_tup, tr_lst, DL.sl_str, DL.sl_lst, En.set_set, if_true, if_false, ite_true, ite_false, Bool.false_eq_true, Nat.zero_lt_succ, true_and, decide_true, decide_false, Bool.not_true, Bool.not_false, List.length_map, asBls_one, all_one]
  refine ⟨by decide, by decide, by decide, show_spec (k := 14) (wd_wD _ [] []) w_nil ?_⟩
  rw [frz_fst, text_nil, cmp_eqs, beq_self_eq_true]
  try simp only [wSs, wS, wE, wA, wT, wB, wI, wG, wGs, tgsL, wipeD, startD, List.map_cons, List.map_nil, List.length_cons, List.length_nil, List.replicate, List.cons_append, List.nil_append, List.append_nil, List.set_cons_zero, List.set_cons_succ, List.set_nil, getv0, getvS, truR_bl, asI_i, asB_b, asS_s, asT_t, optI_0, optI_1, opt_some, ixR_tup, ixR_lst, ixR_set, ixR_str, asQ_tup, asQ_lst, asQ_set, asL_lst, asL_set, asC_set, lenR_tup, lenR_lst, lenR_str, lenR_set, atI0, atI1, atI2, ixN0, ixN2, lv_lst, lv_set, seq_lst, seq_tup, seq_str, bop_ai, bop_as, bop_al, bop_si, bop_mi, bop_ms, bop_mb, bop_mo, bop_fd, bop_pw, cmp_lti, cmp_lei, cmp_gti, cmp_gei, cmp_eqi, cmp_nei, cmp_eqs, cmp_nes, cmp_isin, cmp_nin, in_sign, in_tup, bm_app, bm_pop, bm_clear, bm_join, bm_split, bm_ends, bmT_app, bmT_pop, bmT_clear, bmT_join, bmT_split, bmT_ends, newL_f, newL_t, DL.bi_len, DL.bi_all, DL.bi_any, DL.bi_abs, DL.bi_max, DL.bi_min, DL.bi_inti, DL.bi_intb, DL.bi_str, DL.bi_repr, DL.bi_sorted, DL.bi_list, tr_non, tr_bl, tr_int, tr_str, tr_tup, tr_lst, DL.sl_str, DL.sl_lst, En.set_set, if_true, if_false, ite_true, ite_false, Bool.false_eq_true, Nat.zero_lt_succ, true_and, decide_true, decide_false, Bool.not_true, Bool.not_false, List.length_map, asBls_one, all_one]
  rw [← text_nil]
  refine read_spec (k := 13) w_nil fun H G zs E' rd => ?_
  refine ⟨by decide, by decide, ?_⟩
  have e1 : srt House.nm [] = [] := by simp [srt]
  have e2 : srt Guest.nm [] = [] := by simp [srt]
  have wd := rd.wd
  have ez := rd.ez0
  rw [e1] at ez
  rw [e2] at wd
  refine ⟨(by (try simp only [List.length_cons, List.length_nil, List.length_map, List.length_append]); omega), ?_⟩
  refine eq_W wd (wd_wD _ [] []) (by rw [ez]; rfl) (by rw [ez]; exact w_nil) ?_
  exact ⟨E', En.le_refl _, rfl⟩
end KX

namespace KX
open PySem L2 DL PySem.Spec PyProof.Rows
def top (i : Nat) : Stmt := PySem.Challenge.pw_heardahead_k56_worlds_written.main.body.getD i (.Pass ⟨0, 0, 0, 0⟩)
/-! # the head (printed by head.py) -/
def dd (n : Nat) : He.DefD := ⟨(fnN n, none), fnN n, fnN n, defArgs (top (fnI n)), defBody (top (fnI n)), defScope (top (fnI n)), [], []⟩
def fn : List He.DefD := [dd 0, dd 1, dd 2, dd 3, dd 4, dd 5, dd 6, dd 7, dd 8, dd 9, dd 10, dd 11, dd 12, dd 13, dd 14, dd 15, dd 16, dd 17, dd 18, dd 19, dd 20, dd 21]
def fa : List He.Fa := [.glo "is_count",
  .glo "is_name",
  .glo "is_guest_row",
  .glo "is_order",
  .glo "is_house_row",
  .glo "is_world",
  .glo "need_text",
  .glo "number_shown",
  .glo "number_in",
  .glo "words_in",
  .glo "show_world",
  .glo "house_in",
  .glo "guest_in",
  .glo "read_world",
  .glo "_law_pot",
  .glo "_law_scoop",
  .glo "_law_names",
  .glo "_law_order",
  .glo "_law_town",
  .glo "_law_world_text",
  .glo "_law_wide_right",
  .glo "law",
  .str "LETTERS" "abcdefghijklmnopqrstuvwxyz",
  .int "MOST_LETTERS" 8,
  .str "FIGURES" "0123456789",
  .int "MOST_FIGURES" 9,
  .str "HOUSE_ROW" "house",
  .str "GUEST_ROW" "guest",
  .str "WISHES" "wishes",
  .free "len",
  .free "all",
  .free "any",
  .free "abs",
  .free "max",
  .free "min",
  .free "int",
  .free "str",
  .free "repr",
  .free "sorted",
  .free "list",
  .free "tuple",
  .free "isinstance",
  .free "range",
  .free "set",
  .free "bool",
  .free "dict",
  .exc "ChairError",
  .exc "NoText",
  .glo "ChairError",
  .glo "NoText"]
section
variable {K : PySem.W.Frag} {h : Heap} {mg : Str → Option Value}
def tb (K : PySem.W.Frag) : Tb := ⟨K, fun n => He.ga K (exN n), fun _ => default⟩
theorem def_ok (c : He.SaysD fa fn K) (X : K.In h) (G : h.Ns mainGlobals mg) (i : Nat) (hi : fn[i]? = some (dd i)) (hg : (He.Fa.glo (fnN i)) ∈ fa) {N ps : List Str} {b : Sms} (S : FnScope N ps (defScope (top (fnI i)))) (hc : chkSs pg (.of N (defScope (top (fnI i)))) b (defBody (top (fnI i))) = true) {np ns : Nat} (h1 : ps.length = np) (h2 : N.length = ns)
    (hb : ∀ (kV doc pm : Value) (an : Option Addr) (cdv ct : Value) (us : List Value), us.length = ps.length → bindArgs (PySem.W.fnOf (fnN i) (fnN i) (defArgs (top (fnI i))) (defBody (top (fnI i))) (defScope (top (fnI i))) .none kV doc pm an cdv ct) ⟨us, []⟩ = pure (ps.zip us)) :
    ∃ a fd ps N x qual params body scope, mg (fnN i) = some (.ref a) ∧ PySem.W.keepIn K (.ref a) = true ∧ Binds K fd ps [] ∧ FunD K x qual params body scope [] [] a fd ∧ FnScope N ps scope ∧ chkSs pg (.of N scope) b body = true ∧ ps.length = np ∧ N.length = ns := by
  obtain ⟨fd, F⟩ := c.def_ i hi
  exact ⟨_, fd, ps, N, _, _, _, _, _, He.glo_ok X G (c.facts hg), F.kp, FunD.bindsN F hb, F, S, hc, h1, h2⟩
theorem sc0 : FnScope n0 p0 (defScope (top (fnI 0))) := ⟨rfl, rfl, rfl, by decide +kernel, rfl, by decide +kernel, by decide +kernel⟩
theorem ck0 : chkSs pg (.of n0 (defScope (top (fnI 0)))) b0 (defBody (top (fnI 0))) = true := by decide +kernel
theorem fo0 (c : He.SaysD fa fn K) (X : K.In h) (G : h.Ns mainGlobals mg) : ∃ a fd ps N x qual params body scope, mg (fnN 0) = some (.ref a) ∧ PySem.W.keepIn K (.ref a) = true ∧ Binds K fd ps [] ∧ FunD K x qual params body scope [] [] a fd ∧ FnScope N ps scope ∧ chkSs pg (.of N scope) b0 body = true ∧ ps.length = 1 ∧ N.length = n0.length :=
  def_ok c X G 0 rfl (List.mem_of_getElem? (i := 0) rfl) sc0 ck0 rfl rfl fun _ _ _ _ _ _ us hl => match us, hl with | [_], _ => rfl
theorem sc1 : FnScope n1 p1 (defScope (top (fnI 1))) := ⟨rfl, rfl, rfl, by decide +kernel, rfl, by decide +kernel, by decide +kernel⟩
theorem ck1 : chkSs pg (.of n1 (defScope (top (fnI 1)))) b1 (defBody (top (fnI 1))) = true := by decide +kernel
theorem fo1 (c : He.SaysD fa fn K) (X : K.In h) (G : h.Ns mainGlobals mg) : ∃ a fd ps N x qual params body scope, mg (fnN 1) = some (.ref a) ∧ PySem.W.keepIn K (.ref a) = true ∧ Binds K fd ps [] ∧ FunD K x qual params body scope [] [] a fd ∧ FnScope N ps scope ∧ chkSs pg (.of N scope) b1 body = true ∧ ps.length = 1 ∧ N.length = n1.length :=
  def_ok c X G 1 rfl (List.mem_of_getElem? (i := 1) rfl) sc1 ck1 rfl rfl fun _ _ _ _ _ _ us hl => match us, hl with | [_], _ => rfl
theorem sc2 : FnScope n2 p2 (defScope (top (fnI 2))) := ⟨rfl, rfl, rfl, by decide +kernel, rfl, by decide +kernel, by decide +kernel⟩
theorem ck2 : chkSs pg (.of n2 (defScope (top (fnI 2)))) b2 (defBody (top (fnI 2))) = true := by decide +kernel
theorem fo2 (c : He.SaysD fa fn K) (X : K.In h) (G : h.Ns mainGlobals mg) : ∃ a fd ps N x qual params body scope, mg (fnN 2) = some (.ref a) ∧ PySem.W.keepIn K (.ref a) = true ∧ Binds K fd ps [] ∧ FunD K x qual params body scope [] [] a fd ∧ FnScope N ps scope ∧ chkSs pg (.of N scope) b2 body = true ∧ ps.length = 1 ∧ N.length = n2.length :=
  def_ok c X G 2 rfl (List.mem_of_getElem? (i := 2) rfl) sc2 ck2 rfl rfl fun _ _ _ _ _ _ us hl => match us, hl with | [_], _ => rfl
theorem sc3 : FnScope n3 p3 (defScope (top (fnI 3))) := ⟨rfl, rfl, rfl, by decide +kernel, rfl, by decide +kernel, by decide +kernel⟩
theorem ck3 : chkSs pg (.of n3 (defScope (top (fnI 3)))) b3 (defBody (top (fnI 3))) = true := by decide +kernel
theorem fo3 (c : He.SaysD fa fn K) (X : K.In h) (G : h.Ns mainGlobals mg) : ∃ a fd ps N x qual params body scope, mg (fnN 3) = some (.ref a) ∧ PySem.W.keepIn K (.ref a) = true ∧ Binds K fd ps [] ∧ FunD K x qual params body scope [] [] a fd ∧ FnScope N ps scope ∧ chkSs pg (.of N scope) b3 body = true ∧ ps.length = 2 ∧ N.length = n3.length :=
  def_ok c X G 3 rfl (List.mem_of_getElem? (i := 3) rfl) sc3 ck3 rfl rfl fun _ _ _ _ _ _ us hl => match us, hl with | [_, _], _ => rfl
theorem sc4 : FnScope n4 p4 (defScope (top (fnI 4))) := ⟨rfl, rfl, rfl, by decide +kernel, rfl, by decide +kernel, by decide +kernel⟩
theorem ck4 : chkSs pg (.of n4 (defScope (top (fnI 4)))) b4 (defBody (top (fnI 4))) = true := by decide +kernel
theorem fo4 (c : He.SaysD fa fn K) (X : K.In h) (G : h.Ns mainGlobals mg) : ∃ a fd ps N x qual params body scope, mg (fnN 4) = some (.ref a) ∧ PySem.W.keepIn K (.ref a) = true ∧ Binds K fd ps [] ∧ FunD K x qual params body scope [] [] a fd ∧ FnScope N ps scope ∧ chkSs pg (.of N scope) b4 body = true ∧ ps.length = 2 ∧ N.length = n4.length :=
  def_ok c X G 4 rfl (List.mem_of_getElem? (i := 4) rfl) sc4 ck4 rfl rfl fun _ _ _ _ _ _ us hl => match us, hl with | [_, _], _ => rfl
theorem sc5 : FnScope n5 p5 (defScope (top (fnI 5))) := ⟨rfl, rfl, rfl, by decide +kernel, rfl, by decide +kernel, by decide +kernel⟩
theorem ck5 : chkSs pg (.of n5 (defScope (top (fnI 5)))) b5 (defBody (top (fnI 5))) = true := by decide +kernel
theorem fo5 (c : He.SaysD fa fn K) (X : K.In h) (G : h.Ns mainGlobals mg) : ∃ a fd ps N x qual params body scope, mg (fnN 5) = some (.ref a) ∧ PySem.W.keepIn K (.ref a) = true ∧ Binds K fd ps [] ∧ FunD K x qual params body scope [] [] a fd ∧ FnScope N ps scope ∧ chkSs pg (.of N scope) b5 body = true ∧ ps.length = 1 ∧ N.length = n5.length :=
  def_ok c X G 5 rfl (List.mem_of_getElem? (i := 5) rfl) sc5 ck5 rfl rfl fun _ _ _ _ _ _ us hl => match us, hl with | [_], _ => rfl
theorem sc6 : FnScope n6 p6 (defScope (top (fnI 6))) := ⟨rfl, rfl, rfl, by decide +kernel, rfl, by decide +kernel, by decide +kernel⟩
theorem ck6 : chkSs pg (.of n6 (defScope (top (fnI 6)))) b6 (defBody (top (fnI 6))) = true := by decide +kernel
theorem fo6 (c : He.SaysD fa fn K) (X : K.In h) (G : h.Ns mainGlobals mg) : ∃ a fd ps N x qual params body scope, mg (fnN 6) = some (.ref a) ∧ PySem.W.keepIn K (.ref a) = true ∧ Binds K fd ps [] ∧ FunD K x qual params body scope [] [] a fd ∧ FnScope N ps scope ∧ chkSs pg (.of N scope) b6 body = true ∧ ps.length = 1 ∧ N.length = n6.length :=
  def_ok c X G 6 rfl (List.mem_of_getElem? (i := 6) rfl) sc6 ck6 rfl rfl fun _ _ _ _ _ _ us hl => match us, hl with | [_], _ => rfl
theorem sc7 : FnScope n7 p7 (defScope (top (fnI 7))) := ⟨rfl, rfl, rfl, by decide +kernel, rfl, by decide +kernel, by decide +kernel⟩
theorem ck7 : chkSs pg (.of n7 (defScope (top (fnI 7)))) b7 (defBody (top (fnI 7))) = true := by decide +kernel
theorem fo7 (c : He.SaysD fa fn K) (X : K.In h) (G : h.Ns mainGlobals mg) : ∃ a fd ps N x qual params body scope, mg (fnN 7) = some (.ref a) ∧ PySem.W.keepIn K (.ref a) = true ∧ Binds K fd ps [] ∧ FunD K x qual params body scope [] [] a fd ∧ FnScope N ps scope ∧ chkSs pg (.of N scope) b7 body = true ∧ ps.length = 1 ∧ N.length = n7.length :=
  def_ok c X G 7 rfl (List.mem_of_getElem? (i := 7) rfl) sc7 ck7 rfl rfl fun _ _ _ _ _ _ us hl => match us, hl with | [_], _ => rfl
theorem sc8 : FnScope n8 p8 (defScope (top (fnI 8))) := ⟨rfl, rfl, rfl, by decide +kernel, rfl, by decide +kernel, by decide +kernel⟩
theorem ck8 : chkSs pg (.of n8 (defScope (top (fnI 8)))) b8 (defBody (top (fnI 8))) = true := by decide +kernel
theorem fo8 (c : He.SaysD fa fn K) (X : K.In h) (G : h.Ns mainGlobals mg) : ∃ a fd ps N x qual params body scope, mg (fnN 8) = some (.ref a) ∧ PySem.W.keepIn K (.ref a) = true ∧ Binds K fd ps [] ∧ FunD K x qual params body scope [] [] a fd ∧ FnScope N ps scope ∧ chkSs pg (.of N scope) b8 body = true ∧ ps.length = 1 ∧ N.length = n8.length :=
  def_ok c X G 8 rfl (List.mem_of_getElem? (i := 8) rfl) sc8 ck8 rfl rfl fun _ _ _ _ _ _ us hl => match us, hl with | [_], _ => rfl
theorem sc9 : FnScope n9 p9 (defScope (top (fnI 9))) := ⟨rfl, rfl, rfl, by decide +kernel, rfl, by decide +kernel, by decide +kernel⟩
theorem ck9 : chkSs pg (.of n9 (defScope (top (fnI 9)))) b9 (defBody (top (fnI 9))) = true := by decide +kernel
theorem fo9 (c : He.SaysD fa fn K) (X : K.In h) (G : h.Ns mainGlobals mg) : ∃ a fd ps N x qual params body scope, mg (fnN 9) = some (.ref a) ∧ PySem.W.keepIn K (.ref a) = true ∧ Binds K fd ps [] ∧ FunD K x qual params body scope [] [] a fd ∧ FnScope N ps scope ∧ chkSs pg (.of N scope) b9 body = true ∧ ps.length = 1 ∧ N.length = n9.length :=
  def_ok c X G 9 rfl (List.mem_of_getElem? (i := 9) rfl) sc9 ck9 rfl rfl fun _ _ _ _ _ _ us hl => match us, hl with | [_], _ => rfl
theorem sc10 : FnScope n10 p10 (defScope (top (fnI 10))) := ⟨rfl, rfl, rfl, by decide +kernel, rfl, by decide +kernel, by decide +kernel⟩
theorem ck10 : chkSs pg (.of n10 (defScope (top (fnI 10)))) b10 (defBody (top (fnI 10))) = true := by decide +kernel
theorem fo10 (c : He.SaysD fa fn K) (X : K.In h) (G : h.Ns mainGlobals mg) : ∃ a fd ps N x qual params body scope, mg (fnN 10) = some (.ref a) ∧ PySem.W.keepIn K (.ref a) = true ∧ Binds K fd ps [] ∧ FunD K x qual params body scope [] [] a fd ∧ FnScope N ps scope ∧ chkSs pg (.of N scope) b10 body = true ∧ ps.length = 1 ∧ N.length = n10.length :=
  def_ok c X G 10 rfl (List.mem_of_getElem? (i := 10) rfl) sc10 ck10 rfl rfl fun _ _ _ _ _ _ us hl => match us, hl with | [_], _ => rfl
theorem sc11 : FnScope n11 p11 (defScope (top (fnI 11))) := ⟨rfl, rfl, rfl, by decide +kernel, rfl, by decide +kernel, by decide +kernel⟩
theorem ck11 : chkSs pg (.of n11 (defScope (top (fnI 11)))) b11 (defBody (top (fnI 11))) = true := by decide +kernel
theorem fo11 (c : He.SaysD fa fn K) (X : K.In h) (G : h.Ns mainGlobals mg) : ∃ a fd ps N x qual params body scope, mg (fnN 11) = some (.ref a) ∧ PySem.W.keepIn K (.ref a) = true ∧ Binds K fd ps [] ∧ FunD K x qual params body scope [] [] a fd ∧ FnScope N ps scope ∧ chkSs pg (.of N scope) b11 body = true ∧ ps.length = 1 ∧ N.length = n11.length :=
  def_ok c X G 11 rfl (List.mem_of_getElem? (i := 11) rfl) sc11 ck11 rfl rfl fun _ _ _ _ _ _ us hl => match us, hl with | [_], _ => rfl
theorem sc12 : FnScope n12 p12 (defScope (top (fnI 12))) := ⟨rfl, rfl, rfl, by decide +kernel, rfl, by decide +kernel, by decide +kernel⟩
theorem ck12 : chkSs pg (.of n12 (defScope (top (fnI 12)))) b12 (defBody (top (fnI 12))) = true := by decide +kernel
theorem fo12 (c : He.SaysD fa fn K) (X : K.In h) (G : h.Ns mainGlobals mg) : ∃ a fd ps N x qual params body scope, mg (fnN 12) = some (.ref a) ∧ PySem.W.keepIn K (.ref a) = true ∧ Binds K fd ps [] ∧ FunD K x qual params body scope [] [] a fd ∧ FnScope N ps scope ∧ chkSs pg (.of N scope) b12 body = true ∧ ps.length = 1 ∧ N.length = n12.length :=
  def_ok c X G 12 rfl (List.mem_of_getElem? (i := 12) rfl) sc12 ck12 rfl rfl fun _ _ _ _ _ _ us hl => match us, hl with | [_], _ => rfl
theorem sc13 : FnScope n13 p13 (defScope (top (fnI 13))) := ⟨rfl, rfl, rfl, by decide +kernel, rfl, by decide +kernel, by decide +kernel⟩
theorem ck13 : chkSs pg (.of n13 (defScope (top (fnI 13)))) b13 (defBody (top (fnI 13))) = true := by decide +kernel
theorem fo13 (c : He.SaysD fa fn K) (X : K.In h) (G : h.Ns mainGlobals mg) : ∃ a fd ps N x qual params body scope, mg (fnN 13) = some (.ref a) ∧ PySem.W.keepIn K (.ref a) = true ∧ Binds K fd ps [] ∧ FunD K x qual params body scope [] [] a fd ∧ FnScope N ps scope ∧ chkSs pg (.of N scope) b13 body = true ∧ ps.length = 1 ∧ N.length = n13.length :=
  def_ok c X G 13 rfl (List.mem_of_getElem? (i := 13) rfl) sc13 ck13 rfl rfl fun _ _ _ _ _ _ us hl => match us, hl with | [_], _ => rfl
theorem sc14 : FnScope n14 p14 (defScope (top (fnI 14))) := ⟨rfl, rfl, rfl, by decide +kernel, rfl, by decide +kernel, by decide +kernel⟩
theorem ck14 : chkSs pg (.of n14 (defScope (top (fnI 14)))) b14 (defBody (top (fnI 14))) = true := by decide +kernel
theorem fo14 (c : He.SaysD fa fn K) (X : K.In h) (G : h.Ns mainGlobals mg) : ∃ a fd ps N x qual params body scope, mg (fnN 14) = some (.ref a) ∧ PySem.W.keepIn K (.ref a) = true ∧ Binds K fd ps [] ∧ FunD K x qual params body scope [] [] a fd ∧ FnScope N ps scope ∧ chkSs pg (.of N scope) b14 body = true ∧ ps.length = 1 ∧ N.length = n14.length :=
  def_ok c X G 14 rfl (List.mem_of_getElem? (i := 14) rfl) sc14 ck14 rfl rfl fun _ _ _ _ _ _ us hl => match us, hl with | [_], _ => rfl
theorem sc15 : FnScope n15 p15 (defScope (top (fnI 15))) := ⟨rfl, rfl, rfl, by decide +kernel, rfl, by decide +kernel, by decide +kernel⟩
theorem ck15 : chkSs pg (.of n15 (defScope (top (fnI 15)))) b15 (defBody (top (fnI 15))) = true := by decide +kernel
theorem fo15 (c : He.SaysD fa fn K) (X : K.In h) (G : h.Ns mainGlobals mg) : ∃ a fd ps N x qual params body scope, mg (fnN 15) = some (.ref a) ∧ PySem.W.keepIn K (.ref a) = true ∧ Binds K fd ps [] ∧ FunD K x qual params body scope [] [] a fd ∧ FnScope N ps scope ∧ chkSs pg (.of N scope) b15 body = true ∧ ps.length = 2 ∧ N.length = n15.length :=
  def_ok c X G 15 rfl (List.mem_of_getElem? (i := 15) rfl) sc15 ck15 rfl rfl fun _ _ _ _ _ _ us hl => match us, hl with | [_, _], _ => rfl
theorem sc16 : FnScope n16 p16 (defScope (top (fnI 16))) := ⟨rfl, rfl, rfl, by decide +kernel, rfl, by decide +kernel, by decide +kernel⟩
theorem ck16 : chkSs pg (.of n16 (defScope (top (fnI 16)))) b16 (defBody (top (fnI 16))) = true := by decide +kernel
theorem fo16 (c : He.SaysD fa fn K) (X : K.In h) (G : h.Ns mainGlobals mg) : ∃ a fd ps N x qual params body scope, mg (fnN 16) = some (.ref a) ∧ PySem.W.keepIn K (.ref a) = true ∧ Binds K fd ps [] ∧ FunD K x qual params body scope [] [] a fd ∧ FnScope N ps scope ∧ chkSs pg (.of N scope) b16 body = true ∧ ps.length = 2 ∧ N.length = n16.length :=
  def_ok c X G 16 rfl (List.mem_of_getElem? (i := 16) rfl) sc16 ck16 rfl rfl fun _ _ _ _ _ _ us hl => match us, hl with | [_, _], _ => rfl
theorem sc17 : FnScope n17 p17 (defScope (top (fnI 17))) := ⟨rfl, rfl, rfl, by decide +kernel, rfl, by decide +kernel, by decide +kernel⟩
theorem ck17 : chkSs pg (.of n17 (defScope (top (fnI 17)))) b17 (defBody (top (fnI 17))) = true := by decide +kernel
theorem fo17 (c : He.SaysD fa fn K) (X : K.In h) (G : h.Ns mainGlobals mg) : ∃ a fd ps N x qual params body scope, mg (fnN 17) = some (.ref a) ∧ PySem.W.keepIn K (.ref a) = true ∧ Binds K fd ps [] ∧ FunD K x qual params body scope [] [] a fd ∧ FnScope N ps scope ∧ chkSs pg (.of N scope) b17 body = true ∧ ps.length = 3 ∧ N.length = n17.length :=
  def_ok c X G 17 rfl (List.mem_of_getElem? (i := 17) rfl) sc17 ck17 rfl rfl fun _ _ _ _ _ _ us hl => match us, hl with | [_, _, _], _ => rfl
theorem sc18 : FnScope n18 p18 (defScope (top (fnI 18))) := ⟨rfl, rfl, rfl, by decide +kernel, rfl, by decide +kernel, by decide +kernel⟩
theorem ck18 : chkSs pg (.of n18 (defScope (top (fnI 18)))) b18 (defBody (top (fnI 18))) = true := by decide +kernel
theorem fo18 (c : He.SaysD fa fn K) (X : K.In h) (G : h.Ns mainGlobals mg) : ∃ a fd ps N x qual params body scope, mg (fnN 18) = some (.ref a) ∧ PySem.W.keepIn K (.ref a) = true ∧ Binds K fd ps [] ∧ FunD K x qual params body scope [] [] a fd ∧ FnScope N ps scope ∧ chkSs pg (.of N scope) b18 body = true ∧ ps.length = 2 ∧ N.length = n18.length :=
  def_ok c X G 18 rfl (List.mem_of_getElem? (i := 18) rfl) sc18 ck18 rfl rfl fun _ _ _ _ _ _ us hl => match us, hl with | [_, _], _ => rfl
theorem sc19 : FnScope n19 p19 (defScope (top (fnI 19))) := ⟨rfl, rfl, rfl, by decide +kernel, rfl, by decide +kernel, by decide +kernel⟩
theorem ck19 : chkSs pg (.of n19 (defScope (top (fnI 19)))) b19 (defBody (top (fnI 19))) = true := by decide +kernel
theorem fo19 (c : He.SaysD fa fn K) (X : K.In h) (G : h.Ns mainGlobals mg) : ∃ a fd ps N x qual params body scope, mg (fnN 19) = some (.ref a) ∧ PySem.W.keepIn K (.ref a) = true ∧ Binds K fd ps [] ∧ FunD K x qual params body scope [] [] a fd ∧ FnScope N ps scope ∧ chkSs pg (.of N scope) b19 body = true ∧ ps.length = 1 ∧ N.length = n19.length :=
  def_ok c X G 19 rfl (List.mem_of_getElem? (i := 19) rfl) sc19 ck19 rfl rfl fun _ _ _ _ _ _ us hl => match us, hl with | [_], _ => rfl
theorem sc20 : FnScope n20 p20 (defScope (top (fnI 20))) := ⟨rfl, rfl, rfl, by decide +kernel, rfl, by decide +kernel, by decide +kernel⟩
theorem ck20 : chkSs pg (.of n20 (defScope (top (fnI 20)))) b20 (defBody (top (fnI 20))) = true := by decide +kernel
theorem fo20 (c : He.SaysD fa fn K) (X : K.In h) (G : h.Ns mainGlobals mg) : ∃ a fd ps N x qual params body scope, mg (fnN 20) = some (.ref a) ∧ PySem.W.keepIn K (.ref a) = true ∧ Binds K fd ps [] ∧ FunD K x qual params body scope [] [] a fd ∧ FnScope N ps scope ∧ chkSs pg (.of N scope) b20 body = true ∧ ps.length = 1 ∧ N.length = n20.length :=
  def_ok c X G 20 rfl (List.mem_of_getElem? (i := 20) rfl) sc20 ck20 rfl rfl fun _ _ _ _ _ _ us hl => match us, hl with | [_], _ => rfl
theorem sc21 : FnScope n21 p21 (defScope (top (fnI 21))) := ⟨rfl, rfl, rfl, by decide +kernel, rfl, by decide +kernel, by decide +kernel⟩
theorem ck21 : chkSs pg (.of n21 (defScope (top (fnI 21)))) b21 (defBody (top (fnI 21))) = true := by decide +kernel
theorem fo21 (c : He.SaysD fa fn K) (X : K.In h) (G : h.Ns mainGlobals mg) : ∃ a fd ps N x qual params body scope, mg (fnN 21) = some (.ref a) ∧ PySem.W.keepIn K (.ref a) = true ∧ Binds K fd ps [] ∧ FunD K x qual params body scope [] [] a fd ∧ FnScope N ps scope ∧ chkSs pg (.of N scope) b21 body = true ∧ ps.length = 1 ∧ N.length = n21.length :=
  def_ok c X G 21 rfl (List.mem_of_getElem? (i := 21) rfl) sc21 ck21 rfl rfl fun _ _ _ _ _ _ us hl => match us, hl with | [_], _ => rfl
theorem stat (c : He.SaysD fa fn K) (X : K.In h) (G : h.Ns mainGlobals mg) : Stat (tb K) pg K mg where
  hK := rfl
  glo := fun g d e => by
    by_cases e0 : g = 0
    · subst e0
      cases e
      obtain ⟨t, q⟩ := He.str_ok X G (c.facts (List.mem_of_getElem? (i := 22) rfl))
      exact ⟨.str _, _, q, ⟨t, rfl⟩, fun _ => rd_str.mpr rfl⟩
    by_cases e1 : g = 1
    · subst e1
      cases e
      obtain ⟨t, q⟩ := He.int_ok X G (c.facts (List.mem_of_getElem? (i := 23) rfl))
      exact ⟨.int _, _, q, ⟨t, rfl⟩, fun _ => rd_int.mpr rfl⟩
    by_cases e2 : g = 2
    · subst e2
      cases e
      obtain ⟨t, q⟩ := He.str_ok X G (c.facts (List.mem_of_getElem? (i := 24) rfl))
      exact ⟨.str _, _, q, ⟨t, rfl⟩, fun _ => rd_str.mpr rfl⟩
    by_cases e3 : g = 3
    · subst e3
      cases e
      obtain ⟨t, q⟩ := He.int_ok X G (c.facts (List.mem_of_getElem? (i := 25) rfl))
      exact ⟨.int _, _, q, ⟨t, rfl⟩, fun _ => rd_int.mpr rfl⟩
    by_cases e4 : g = 4
    · subst e4
      cases e
      obtain ⟨t, q⟩ := He.str_ok X G (c.facts (List.mem_of_getElem? (i := 26) rfl))
      exact ⟨.str _, _, q, ⟨t, rfl⟩, fun _ => rd_str.mpr rfl⟩
    by_cases e5 : g = 5
    · subst e5
      cases e
      obtain ⟨t, q⟩ := He.str_ok X G (c.facts (List.mem_of_getElem? (i := 27) rfl))
      exact ⟨.str _, _, q, ⟨t, rfl⟩, fun _ => rd_str.mpr rfl⟩
    by_cases e6 : g = 6
    · subst e6
      cases e
      obtain ⟨t, q⟩ := He.str_ok X G (c.facts (List.mem_of_getElem? (i := 28) rfl))
      exact ⟨.str _, _, q, ⟨t, rfl⟩, fun _ => rd_str.mpr rfl⟩
    exfalso
    have z : glT g = none := by
      unfold glT
      split <;> first | rfl | (exact absurd rfl (by assumption))
    rw [show pg.G g = none from z] at e
    cases e
  free := fun x hx => by
    unfold blts at hx
    simp only [List.mem_cons, List.not_mem_nil, or_false] at hx
    rcases hx with rfl | rfl | rfl | rfl | rfl | rfl | rfl | rfl | rfl | rfl | rfl | rfl | rfl | rfl | rfl | rfl | rfl
    · exact He.free_ok X G (c.facts (List.mem_of_getElem? (i := 29) rfl))
    · exact He.free_ok X G (c.facts (List.mem_of_getElem? (i := 30) rfl))
    · exact He.free_ok X G (c.facts (List.mem_of_getElem? (i := 31) rfl))
    · exact He.free_ok X G (c.facts (List.mem_of_getElem? (i := 32) rfl))
    · exact He.free_ok X G (c.facts (List.mem_of_getElem? (i := 33) rfl))
    · exact He.free_ok X G (c.facts (List.mem_of_getElem? (i := 34) rfl))
    · exact He.free_ok X G (c.facts (List.mem_of_getElem? (i := 35) rfl))
    · exact He.free_ok X G (c.facts (List.mem_of_getElem? (i := 36) rfl))
    · exact He.free_ok X G (c.facts (List.mem_of_getElem? (i := 37) rfl))
    · exact He.free_ok X G (c.facts (List.mem_of_getElem? (i := 38) rfl))
    · exact He.free_ok X G (c.facts (List.mem_of_getElem? (i := 39) rfl))
    · exact He.free_ok X G (c.facts (List.mem_of_getElem? (i := 40) rfl))
    · exact He.free_ok X G (c.facts (List.mem_of_getElem? (i := 41) rfl))
    · exact He.free_ok X G (c.facts (List.mem_of_getElem? (i := 42) rfl))
    · exact He.free_ok X G (c.facts (List.mem_of_getElem? (i := 43) rfl))
    · exact He.free_ok X G (c.facts (List.mem_of_getElem? (i := 44) rfl))
    · exact He.free_ok X G (c.facts (List.mem_of_getElem? (i := 45) rfl))
  func := fun f g e => by
    by_cases e0 : f = 0
    · subst e0
      cases e
      exact fo0 c X G
    by_cases e1 : f = 1
    · subst e1
      cases e
      exact fo1 c X G
    by_cases e2 : f = 2
    · subst e2
      cases e
      exact fo2 c X G
    by_cases e3 : f = 3
    · subst e3
      cases e
      exact fo3 c X G
    by_cases e4 : f = 4
    · subst e4
      cases e
      exact fo4 c X G
    by_cases e5 : f = 5
    · subst e5
      cases e
      exact fo5 c X G
    by_cases e6 : f = 6
    · subst e6
      cases e
      exact fo6 c X G
    by_cases e7 : f = 7
    · subst e7
      cases e
      exact fo7 c X G
    by_cases e8 : f = 8
    · subst e8
      cases e
      exact fo8 c X G
    by_cases e9 : f = 9
    · subst e9
      cases e
      exact fo9 c X G
    by_cases e10 : f = 10
    · subst e10
      cases e
      exact fo10 c X G
    by_cases e11 : f = 11
    · subst e11
      cases e
      exact fo11 c X G
    by_cases e12 : f = 12
    · subst e12
      cases e
      exact fo12 c X G
    by_cases e13 : f = 13
    · subst e13
      cases e
      exact fo13 c X G
    by_cases e14 : f = 14
    · subst e14
      cases e
      exact fo14 c X G
    by_cases e15 : f = 15
    · subst e15
      cases e
      exact fo15 c X G
    by_cases e16 : f = 16
    · subst e16
      cases e
      exact fo16 c X G
    by_cases e17 : f = 17
    · subst e17
      cases e
      exact fo17 c X G
    by_cases e18 : f = 18
    · subst e18
      cases e
      exact fo18 c X G
    by_cases e19 : f = 19
    · subst e19
      cases e
      exact fo19 c X G
    by_cases e20 : f = 20
    · subst e20
      cases e
      exact fo20 c X G
    by_cases e21 : f = 21
    · subst e21
      cases e
      exact fo21 c X G
    exfalso
    have z : fnT f = none := by
      unfold fnT
      split <;> first | rfl | (exact absurd rfl (by assumption))
    rw [show pg.F f = none from z] at e
    cases e
  exc := fun m hm => by
    have hm : m < 2 := hm
    by_cases e0 : m = 0
    · subst e0
      obtain ⟨q1, q2, q3, q4⟩ := He.exc_ok (He.SaysD.facts c (f := He.Fa.exc "ChairError") (List.mem_of_getElem? (i := 46) rfl))
      exact ⟨_, _, _, _, PySem.F.excBase_ValueError, q1, He.glo_ok X G (c.facts (List.mem_of_getElem? (i := 48) rfl)), q2, q3, q4⟩
    by_cases e1 : m = 1
    · subst e1
      obtain ⟨q1, q2, q3, q4⟩ := He.exc_ok (He.SaysD.facts c (f := He.Fa.exc "NoText") (List.mem_of_getElem? (i := 47) rfl))
      exact ⟨_, _, _, _, PySem.F.excBase_ValueError, q1, He.glo_ok X G (c.facts (List.mem_of_getElem? (i := 49) rfl)), q2, q3, q4⟩
    omega
end
abbrev R : PySem.W.OpenRow := PySem.W.OpenLaw.row PySem.Challenge.rw_heardahead_k56_worlds_written
abbrev hk : PySem.W.Hook := He.hookD 4 fa fn
def ob (s : PySem.W.SharedT) : He.AlD := He.obsDG 4 fa fn (HandSHeadRun.getT s)
theorem ob_eq (s : PySem.W.SharedT) : ob s = hk.obs s.abs := He.obsDG_eq (HandSHeadRun.getT_eq s)
def loose : List Str := ["__name__", "ChairError", "NoText", "LETTERS", "MOST_LETTERS", "is_count", "is_name", "is_guest_row", "is_order", "is_house_row", "is_world", "FIGURES", "MOST_FIGURES", "HOUSE_ROW", "GUEST_ROW", "WISHES", "need_text", "number_shown", "number_in", "words_in", "show_world", "house_in", "guest_in", "read_world", "_law_pot", "_law_scoop", "_law_names", "_law_order", "_law_town", "_law_world_text", "_law_wide_right"]
theorem run (w : World) : HandSHeadRun.RunEq R (PySem.W.view R.prog [34]) hk ob 4000 loose w := by
  intro os
  kernel_rfl
def lv0 : Nat := 20
end KX
open PySem PySem.W PySem.Calls PyProof.Rows in
theorem PySem.Challenge.cw_heardahead_k56_worlds_written_holds : PySem.Challenge.rw_heardahead_k56_worlds_written.Holds := by
  w_on; o_law
  refine HandSHeadRun.head_any (r := OpenLaw.row PySem.Challenge.rw_heardahead_k56_worlds_written) (q := view (OpenLaw.row PySem.Challenge.rw_heardahead_k56_worlds_written).prog [34]) (H := KX.hk) (ob := KX.ob) (M := 4000) (loose := KX.loose) (d := HandSHeadRun.topDef (OpenLaw.row PySem.Challenge.rw_heardahead_k56_worlds_written).prog 34) (kwd := []) KX.ob_eq
    (by kernel_rfl) (fun s => by kernel_rfl) KX.run (by kernel_rfl) (by kernel_rfl) (by kernel_rfl) (by rfl) (by first | assumption | decide +kernel) (by decide +kernel) ⟨rfl, rfl, rfl, rfl, rfl, by decide +kernel⟩ ?hw ?hc
  case hw => w_witness2
  case hc =>
    refine DL.walk_D (l := PySem.Challenge.rw_heardahead_k56_worlds_written) (n := 63) (k := KX.lv0) (f := 21) (x := "_law_script") (P := KX.pg) rfl (by decide) (by kernel_rfl) ⟨rfl, by decide, by decide⟩ ?F (fun ns h => KX.law_spec ns h)
    intro w mg fa h Y G hmg0
    obtain ⟨K, KI, c⟩ := Y
    have hmg : mg ("law" : PySem.Str) = some (.ref fa) := by
      have e : (HandSHeadRun.topDef (OpenLaw.row PySem.Challenge.rw_heardahead_k56_worlds_written).prog 34).name = ("law" : PySem.Str) := by kernel_rfl
      rw [← e]
      exact hmg0
    obtain ⟨fd, F⟩ := He.SaysD.def_ c 21 (d := KX.dd 21) rfl
    have e := hmg.symm.trans (He.glo_ok KI G (He.SaysD.facts c (f := .glo "law") (List.mem_of_getElem? (i := 21) rfl)))
    cases e
    have b := L2.FunD.bindsA (ps := KX.p21) F fun _ _ _ _ _ _ us hl => match us, hl with | [_], _ => rfl
    refine ⟨KX.tb K, fd, KI, fun s v => b s [v] rfl, fun base KB GB => ?_⟩
    have S := KX.stat c KI G
    exact DL.fn_go (S.all (prog := (PySem.Challenge.rw_heardahead_k56_worlds_written).prog) (w := w) (base := base) (KX.lv0 - 1)) rfl rfl F KX.sc21 KX.ck21 rfl rfl
