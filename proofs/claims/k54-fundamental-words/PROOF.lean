import PyProof.Rows.All
import Wide.All
import OpenK.AllK
import Wide.FinOn
import HandS.ForMost
import HandS.DictComp
import HandS.DictTup
import HandS.Star
import HandS.Wide
import HandS.SortKw
import HandS.TupAny
import HandS.Style
import HandS.Defaults
import HandS.Property
import KE.LtData
import PyProof.StrLawsRepr
import HandS.Ends
import PyProof.Rows.RuleB_pow
import PySem.Challenge.RW_nestsums_k54_fundamental_words
set_option Elab.async false
set_option linter.all false
set_option maxRecDepth 1000000
/-! Ownership types over the hand layer: G what is known for good, slots own what may change. -/
namespace NS
open PySem L2 PySem.Spec
/-- facts that stay -/
abbrev Gh := Addr → HO → Prop
def Gh.le (G G' : Gh) : Prop := ∀ a u, G a u → G' a u
theorem Gh.le.rfl' {G : Gh} : G.le G := fun _ _ h => h
theorem Gh.le.tr {G G' G2 : Gh} (x : G.le G') (y : G'.le G2) : G.le G2 := fun a u h => y a u (x a u h)
def Gh.add (G : Gh) (p : Addr) (o : HO) : Gh := fun a u => G a u ∨ (a = p ∧ u = o)
theorem Gh.le_add {G : Gh} {p : Addr} {o : HO} : G.le (G.add p o) := fun _ _ h => .inl h
theorem Gh.add_at {G : Gh} {p : Addr} {o : HO} : (G.add p o) p o := .inr ⟨rfl, rfl⟩
def isD : HO → Prop
  | .dK _ => True
  | .dT _ => True
  | _ => False
/-- readable: as it is, or (a dict) locked -/
def Rdm (H : Hp) (a : Addr) (u : HO) : Prop := H a = some u ∨ (isD u ∧ ∃ o, H a = some (.frz o u))
theorem Rdm.rd {H : Hp} {a : Addr} {u : HO} (h : Rdm H a u) : Rd H a u := by
  rcases h with h | ⟨_, o, h⟩
  · exact .inl h
  · exact .inr ⟨o, h⟩
theorem Rdm.tup {H : Hp} {a : Addr} {vs : List V} (h : Rdm H a (.tup vs)) : H a = some (.tup vs) := by
  rcases h with h | ⟨m, _⟩
  · exact h
  · exact m.elim
theorem Rdm.lst {H : Hp} {a : Addr} {vs : List V} (h : Rdm H a (.lst vs)) : H a = some (.lst vs) := by
  rcases h with h | ⟨m, _⟩
  · exact h
  · exact m.elim
theorem Rdm.some {H : Hp} {a : Addr} {u : HO} (h : Rdm H a u) : H a ≠ none := by
  rcases h with h | ⟨_, o, h⟩ <;> rw [h] <;> simp
def Fit (G : Gh) (H : Hp) : Prop := ∀ a u, G a u → Rdm H a u
/-- an assertion on a value, that stays -/
structure As where
  p : Gh → V → Prop
  up : ∀ {G G' : Gh} {v : V}, G.le G' → p G v → p G' v
/-- an owned thing: its value, its footprint -/
structure Ob where
  at' : V → Hp → Gh → (Addr → Prop) → Prop
  stab : ∀ {v : V} {H H' : Hp} {G G' : Gh} {F : Addr → Prop}, at' v H G F → (∀ a u, F a → H a = some u → H' a = some u) → G.le G' → at' v H' G' F
inductive En where
  | no
  | im (A : As)
  | mu (O : Ob)
def Sl : List En → Gh → L2.St → Hp → (Addr → Prop) → Prop
  | [], _, σ, _, _ => σ = []
  | .no :: Γ, G, σ, H, F => ∃ o r, σ = o :: r ∧ Sl Γ G r H F
  | .im A :: Γ, G, σ, H, F => ∃ v r, σ = some v :: r ∧ A.p G v ∧ Sl Γ G r H F
  | .mu O :: Γ, G, σ, H, F => ∃ v r F1 F2, σ = some v :: r ∧ O.at' v H G F1 ∧ Sl Γ G r H F2 ∧ (∀ a, F1 a → F2 a → False) ∧ (∀ a, F1 a ∨ F2 a → F a)
theorem Sl.mono : ∀ {Γ : List En} {G G' : Gh} {σ : L2.St} {H H' : Hp} {F F' : Addr → Prop}, Sl Γ G σ H F → G.le G' → (∀ a u, F a → H a = some u → H' a = some u) → (∀ a, F a → F' a) → Sl Γ G' σ H' F'
  | [], _, _, _, _, _, _, _, h, _, _, _ => h
  | .no :: Γ, _, _, _, _, _, _, _, ⟨o, r, e, h⟩, hg, hk, hf => ⟨o, r, e, Sl.mono h hg hk hf⟩
  | .im A :: Γ, _, _, _, _, _, _, _, ⟨v, r, e, ha, h⟩, hg, hk, hf => ⟨v, r, e, A.up hg ha, Sl.mono h hg hk hf⟩
  | .mu O :: Γ, _, _, _, _, _, _, _, ⟨v, r, F1, F2, e, ho, h, hd, hs⟩, hg, hk, hf =>
    ⟨v, r, F1, F2, e, O.stab ho (fun a u fa => hk a u (hs a (.inl fa))) hg, Sl.mono h hg (fun a u fa => hk a u (hs a (.inr fa))) (fun _ fa => fa), hd, fun a fa => hf a (hs a fa)⟩
/-- the state is as Γ says -/
structure OK (Γ : List En) (G : Gh) (σ : L2.St) (H : Hp) (F : Addr → Prop) : Prop where
  sl : Sl Γ G σ H F
  fit : Fit G H
  off : ∀ a u, F a → ¬ G a u
  th : ∀ a, F a → H a ≠ none
/-- from one state to a later one: only F may have changed -/
structure Stp (G : Gh) (H : Hp) (F : Addr → Prop) (G' : Gh) (H' : Hp) (F' : Addr → Prop) : Prop where
  le : G.le G'
  keep : ∀ a u, ¬ F a → H a = some u → H' a = some u
  new : ∀ a u, G' a u → G a u ∨ H a = none ∨ F a
  grow : ∀ a, F' a → F a ∨ H a = none
  live : ∀ a, H a ≠ none → H' a ≠ none
theorem Stp.rfl' {G : Gh} {H : Hp} {F : Addr → Prop} : Stp G H F G H F := ⟨.rfl', fun _ _ _ h => h, fun _ _ h => .inl h, fun _ h => .inl h, fun _ h => h⟩
theorem Stp.tr {G : Gh} {H : Hp} {F : Addr → Prop} {G1 : Gh} {H1 : Hp} {F1 : Addr → Prop} {G2 : Gh} {H2 : Hp} {F2 : Addr → Prop} (x : Stp G H F G1 H1 F1) (y : Stp G1 H1 F1 G2 H2 F2) : Stp G H F G2 H2 F2 where
  le := x.le.tr y.le
  keep := fun a u nf h => y.keep a u (fun f1 => by
    rcases x.grow a f1 with f | f
    · exact nf f
    · rw [f] at h; cases h) (x.keep a u nf h)
  new := fun a u g => by
    rcases y.new a u g with g | g | g
    · exact x.new a u g
    · exact .inr (.inl (Classical.byContradiction fun n => x.live a n g))
    · exact .inr ((x.grow a g).symm)
  grow := fun a f => by
    rcases y.grow a f with f | f
    · exact x.grow a f
    · refine .inr (Classical.byContradiction fun n => x.live a n f)
  live := fun a h => y.live a (x.live a h)
theorem Stp.same {G : Gh} {H H' : Hp} {F : Addr → Prop} (h : Same H H') : Stp G H F G H' F := ⟨.rfl', fun _ _ _ e => h _ _ e, fun _ _ g => .inl g, fun _ f => .inl f, fun a n => by
  cases e : H a with
  | none => exact absurd e n
  | some u => rw [h a u e]; simp⟩
theorem Fit.same {G : Gh} {H H' : Hp} (f : Fit G H) (h : Same H H') : Fit G H' := fun a u g => by
  rcases f a u g with e | ⟨m, o, e⟩
  · exact .inl (h _ _ e)
  · exact .inr ⟨m, o, h _ _ e⟩
theorem OK.same {Γ : List En} {G : Gh} {σ : L2.St} {H H' : Hp} {F : Addr → Prop} (k : OK Γ G σ H F) (h : Same H H') : OK Γ G σ H' F :=
  ⟨k.sl.mono .rfl' (fun _ _ _ e => h _ _ e) fun _ f => f, k.fit.same h, k.off, fun a f => by
    cases e : H a with
    | none => exact absurd e (k.th a f)
    | some u => rw [h a u e]; simp⟩
theorem same_new {H : Hp} {p : Addr} {o : HO} (hp : H p = none) : Same H (upd H p o) := fun b u e => by rw [upd_ne (ne_of_none e hp)]; exact e
theorem Stp.new' {G : Gh} {H : Hp} {F : Addr → Prop} {p : Addr} {o : HO} (hp : H p = none) : Stp G H F (G.add p o) (upd H p o) F where
  le := Gh.le_add
  keep := fun a u _ e => same_new hp a u e
  new := fun a u g => by
    rcases g with g | ⟨rfl, _⟩
    · exact .inl g
    · exact .inr (.inl hp)
  grow := fun _ f => .inl f
  live := fun a n => by
    by_cases e : a = p
    · subst e; rw [upd_same]; simp
    · rw [upd_ne e]; exact n
theorem OK.new {Γ : List En} {G : Gh} {σ : L2.St} {H : Hp} {F : Addr → Prop} {p : Addr} {o : HO} (k : OK Γ G σ H F) (hp : H p = none) : OK Γ (G.add p o) σ (upd H p o) F where
  sl := k.sl.mono Gh.le_add (fun a u _ e => same_new hp a u e) fun _ f => f
  fit := fun a u g => by
    rcases g with g | ⟨rfl, rfl⟩
    · exact (k.fit.same (same_new hp)) a u g
    · exact .inl upd_same
  off := fun a u f g => by
    rcases g with g | ⟨rfl, _⟩
    · exact k.off a u f g
    · exact k.th a f hp
  th := fun a f => (Stp.new' (G := G) (F := F) (o := o) hp).live a (k.th a f)
/-! ### what evaluates to what -/
def EVs (te : TE) (Γ Γ' : List En) (P : As) : Prop := ∀ (G : Gh) (σ : L2.St) (H : Hp) (F : Addr → Prop), OK Γ G σ H F → ∀ Q : VK, (∀ v G' H' F', Stp G H F G' H' F' → OK Γ' G' σ H' F' → P.p G' v → Q v H') → te σ H Q
def ETs (tt : TT) (Γ Γ' : List En) (b : Bool) : Prop := ∀ (G : Gh) (σ : L2.St) (H : Hp) (F : Addr → Prop), OK Γ G σ H F → ∀ Q : Bool → Hp → Prop, (∀ G' H' F', Stp G H F G' H' F' → OK Γ' G' σ H' F' → Q b H') → tt σ H Q
def EAs (ta : TA) (Γ Γ' : List En) (Ps : List As) : Prop := ∀ (G : Gh) (σ : L2.St) (H : Hp) (F : Addr → Prop), OK Γ G σ H F → ∀ Q : List V → Hp → Prop, (∀ vs G' H' F', Stp G H F G' H' F' → OK Γ' G' σ H' F' → Paired (fun v (P : As) => P.p G' v) vs Ps → Q vs H') → ta σ H Q
abbrev EV (te : TE) (Γ : List En) (P : As) : Prop := EVs te Γ Γ P
abbrev ET (tt : TT) (Γ : List En) (b : Bool) : Prop := ETs tt Γ Γ b
abbrev EA (ta : TA) (Γ : List En) (Ps : List As) : Prop := EAs ta Γ Γ Ps
theorem EVs.imp {te : TE} {Γ Γ' : List En} {P P' : As} (h : EVs te Γ Γ' P) (i : ∀ G v, P.p G v → P'.p G v) : EVs te Γ Γ' P' := fun G σ H F k Q q => h G σ H F k Q fun v G' H' F' s k' a => q v G' H' F' s k' (i _ _ a)
theorem EVs.eq {te : TE} {Γ Γ' : List En} {P P' : As} (h : EVs te Γ Γ' P) (e : P = P') : EVs te Γ Γ' P' := e ▸ h
theorem ETs.eq {te : TT} {Γ Γ' : List En} {b c : Bool} (h : ETs te Γ Γ' b) (e : b = c) : ETs te Γ Γ' c := e ▸ h
/-! ### the readings by the machine itself -/
def wpE (X : Cx) (e : Expr) : TE := fun σ H Q => ∀ pins s, Inv X pins σ H s → wpAny (model X.prog X.w) X.A (eval e X.env) (EP X pins σ Q) X.xe s
def wpT (X : Cx) (e : Expr) : TT := fun σ H Q => ∀ pins s, Inv X pins σ H s → wpAny (model X.prog X.w) X.A (isTrue e X.env (eval e X.env)) (TP X pins σ Q) X.xe s
def wpA (X : Cx) (es : List Expr) : TA := fun σ H Q => ∀ pos pins s, Inv X pins σ H s → wpAny (model X.prog X.w) X.A (spliced (backTo pos (starEach es X.env))) (AP X pins σ Q) X.xe s
def wpSt (X : Cx) (st : Stmt) : TS := fun D σ H => ∀ pins s, Inv X pins σ H s → wpAny (model X.prog X.w) X.A (exec st X.env) (SP X pins D) X.xe s
def wpSs (X : Cx) (sts : List Stmt) : TS := fun D σ H => ∀ pins s, Inv X pins σ H s → wpAny (model X.prog X.w) X.A (execs sts X.env) (SP X pins D) X.xe s
section
variable {X : Cx} {e : Expr} {es : List Expr} {st : Stmt} {sts : List Stmt}
theorem pe_wp : PE X e (wpE X e) := ⟨fun pins s σ H Q I h => h pins s I⟩
theorem pt_wp : PT X e (wpT X e) := ⟨fun pins s σ H Q I h => h pins s I⟩
theorem pa_wp : PA X es (wpA X es) := ⟨fun pos pins s σ H Q I h => h pos pins s I⟩
theorem ps_wp : PS X st (wpSt X st) := ⟨fun pins s σ H D I h => h pins s I⟩
theorem pss_wp : PSs X sts (wpSs X sts) := ⟨fun pins s σ H D I h => h pins s I⟩
end
abbrev XE (X : Cx) (Γ : List En) (e : Expr) (P : As) : Prop := EVs (wpE X e) Γ Γ P
abbrev XT (X : Cx) (Γ : List En) (e : Expr) (b : Bool) : Prop := ETs (wpT X e) Γ Γ b
abbrev XA (X : Cx) (Γ : List En) (es : List Expr) (Ps : List As) : Prop := EAs (wpA X es) Γ Γ Ps
/-- the same where an owned thing may go on -/
abbrev YE (X : Cx) (Γ Γ' : List En) (e : Expr) (P : As) : Prop := EVs (wpE X e) Γ Γ' P
abbrev YT (X : Cx) (Γ Γ' : List En) (e : Expr) (b : Bool) : Prop := ETs (wpT X e) Γ Γ' b
abbrev YA (X : Cx) (Γ Γ' : List En) (es : List Expr) (Ps : List As) : Prop := EAs (wpA X es) Γ Γ' Ps
theorem YE.of {X : Cx} {e : Expr} {Γ Γ' : List En} {P : As} {t : TE} (h : PE X e t) (ev : EVs t Γ Γ' P) : YE X Γ Γ' e P := fun G σ H F k Q q => fun pins s I => h.run pins s σ H Q I (ev G σ H F k Q q)
theorem YT.of {X : Cx} {e : Expr} {Γ Γ' : List En} {b : Bool} {t : TT} (h : PT X e t) (ev : ETs t Γ Γ' b) : YT X Γ Γ' e b := fun G σ H F k Q q => fun pins s I => h.run pins s σ H Q I (ev G σ H F k Q q)
theorem YA.of {X : Cx} {es : List Expr} {Γ Γ' : List En} {Ps : List As} {t : TA} (h : PA X es t) (ev : EAs t Γ Γ' Ps) : YA X Γ Γ' es Ps := fun G σ H F k Q q => fun pos pins s I => h.run pos pins s σ H Q I (ev G σ H F k Q q)
section
variable {X : Cx} {e : Expr} {es : List Expr} {Γ : List En} {P : As} {t : TE} {tt : TT} {ta : TA} {b : Bool} {Ps : List As}
theorem XE.of (h : PE X e t) (ev : EV t Γ P) : XE X Γ e P := fun G σ H F k Q q => fun pins s I => h.run pins s σ H Q I (ev G σ H F k Q q)
theorem XT.of (h : PT X e tt) (ev : ET tt Γ b) : XT X Γ e b := fun G σ H F k Q q => fun pins s I => h.run pins s σ H Q I (ev G σ H F k Q q)
theorem XA.of (h : PA X es ta) (ev : EA ta Γ Ps) : XA X Γ es Ps := fun G σ H F k Q q => fun pos pins s I => h.run pos pins s σ H Q I (ev G σ H F k Q q)
end
theorem lt_some {α : Type} {l : List α} {i : Nat} (h : l[i]?.isSome = true) : i < l.length := by
  rcases Nat.lt_or_ge i l.length with z | z
  · exact z
  · rw [List.getElem?_eq_none z] at h; cases h
/-! ### statements -/
structure Po where
  nx : Option (List En) := none
  rt : Option (As × List En) := none
  bk : Option (List En) := none
  ct : Option (List En) := none
  ro : Option (En × List En) := none
structure Meets (Ω : Po) (G : Gh) (H : Hp) (F : Addr → Prop) (D : Ends) : Prop where
  nx : ∀ Γn, Ω.nx = some Γn → ∀ G' σ' H' F', Stp G H F G' H' F' → OK Γn G' σ' H' F' → D.nx σ' H'
  rt : ∀ R Γr, Ω.rt = some (R, Γr) → ∀ v G' σ' H' F', Stp G H F G' H' F' → OK Γr G' σ' H' F' → R.p G' v → D.rt v H'
  bk : ∀ Γn, Ω.bk = some Γn → ∀ G' σ' H' F', Stp G H F G' H' F' → OK Γn G' σ' H' F' → D.bk σ' H'
  ct : ∀ Γn, Ω.ct = some Γn → ∀ G' σ' H' F', Stp G H F G' H' F' → OK Γn G' σ' H' F' → D.ct σ' H'
  ro : ∀ E Γr, Ω.ro = some (E, Γr) → ∀ v G' σ' H' F', Stp G H F G' H' F' → OK (E :: Γr) G' (some v :: σ') H' F' → D.rt v H'
theorem Meets.later {Ω : Po} {G : Gh} {H : Hp} {F : Addr → Prop} {D : Ends} {G' : Gh} {H' : Hp} {F' : Addr → Prop} (m : Meets Ω G H F D) (s : Stp G H F G' H' F') : Meets Ω G' H' F' D :=
  ⟨fun Γn e G2 σ2 H2 F2 s2 k => m.nx Γn e G2 σ2 H2 F2 (s.tr s2) k, fun R Γr e v G2 σ2 H2 F2 s2 k => m.rt R Γr e v G2 σ2 H2 F2 (s.tr s2) k, fun Γn e G2 σ2 H2 F2 s2 k => m.bk Γn e G2 σ2 H2 F2 (s.tr s2) k, fun Γn e G2 σ2 H2 F2 s2 k => m.ct Γn e G2 σ2 H2 F2 (s.tr s2) k, fun E Γr e v G2 σ2 H2 F2 s2 k => m.ro E Γr e v G2 σ2 H2 F2 (s.tr s2) k⟩
def ES (t : TS) (Γ : List En) (Ω : Po) : Prop := ∀ (G : Gh) (σ : L2.St) (H : Hp) (F : Addr → Prop), OK Γ G σ H F → ∀ D : Ends, Meets Ω G H F D → t D σ H
abbrev XS (X : Cx) (Γ : List En) (st : Stmt) (Ω : Po) : Prop := ES (wpSt X st) Γ Ω
abbrev XB (X : Cx) (Γ : List En) (sts : List Stmt) (Ω : Po) : Prop := ES (wpSs X sts) Γ Ω
theorem XS.of {X : Cx} {st : Stmt} {t : TS} {Γ : List En} {Ω : Po} (h : PS X st t) (ev : ES t Γ Ω) : XS X Γ st Ω := fun G σ H F k D m => fun pins s I => h.run pins s σ H D I (ev G σ H F k D m)
theorem XB.of {X : Cx} {sts : List Stmt} {t : TS} {Γ : List En} {Ω : Po} (h : PSs X sts t) (ev : ES t Γ Ω) : XB X Γ sts Ω := fun G σ H F k D m => fun pins s I => h.run pins s σ H D I (ev G σ H F k D m)
/-- a weaker environment -/
def Sub (Γ Γ' : List En) : Prop := ∀ (G : Gh) (σ : L2.St) (H : Hp) (F : Addr → Prop), OK Γ G σ H F → ∃ G' F', Stp G H F G' H F' ∧ OK Γ' G' σ H F'
theorem Sub.rfl' {Γ : List En} : Sub Γ Γ := fun G σ H F k => ⟨G, F, .rfl', k⟩
theorem Sub.tr {Γ Γ' Γ2 : List En} (x : Sub Γ Γ') (y : Sub Γ' Γ2) : Sub Γ Γ2 := fun G σ H F k => by
  obtain ⟨G1, F1, s1, k1⟩ := x G σ H F k
  obtain ⟨G2, F2, s2, k2⟩ := y G1 σ H F1 k1
  exact ⟨G2, F2, s1.tr s2, k2⟩
section
variable {X : Cx} {st : Stmt} {sts : List Stmt} {Γ Γ1 Γ2 : List En} {Ω : Po} {t : TS}
theorem ES.sub (s : Sub Γ Γ1) (h : ES t Γ1 Ω) : ES t Γ Ω := fun G σ H F k D m => by
  obtain ⟨G1, F1, s1, k1⟩ := s G σ H F k
  exact h G1 σ H F1 k1 D (m.later s1)
theorem x_nil (s : Sub Γ Γ1) (hΩ : Ω.nx = some Γ1 := by rfl) : XB X Γ [] Ω := XB.of pss_nil fun G σ H F k D m => by
  obtain ⟨G1, F1, s1, k1⟩ := s G σ H F k
  exact m.nx Γ1 hΩ G1 σ H F1 s1 k1
theorem x_cons (Γ1 : List En) (h1 : XS X Γ st { Ω with nx := some Γ1 }) (h2 : XB X Γ1 sts Ω) : XB X Γ (st :: sts) Ω :=
  XB.of (pss_cons ps_wp pss_wp) fun G σ H F k D m => h1 G σ H F k { D with nx := wpSs X sts D } ⟨fun Γn e G' σ' H' F' s k' => by
    have e' : Γ1 = Γn := Option.some.inj e
    subst e'
    exact h2 G' σ' H' F' k' D (m.later s), m.rt, m.bk, m.ct, m.ro⟩
/-- a statement behind which nothing comes -/
theorem x_last (h1 : XS X Γ st Ω) : XB X Γ [st] Ω := XB.of (pss_one ps_wp) fun G σ H F k D m => h1 G σ H F k D m
/-- the rest is never reached -/
theorem x_end (h1 : XS X Γ st { Ω with nx := none }) : XB X Γ (st :: sts) Ω :=
  XB.of (pss_cons ps_wp pss_never) fun G σ H F k D m => h1 G σ H F k { D with nx := tNever D } ⟨(fun Γn e => nomatch e), m.rt, m.bk, m.ct, m.ro⟩
end
end NS
namespace NS
open PySem L2 PySem.Spec
/-! ### assertions -/
def aI (i : Int) : As := ⟨fun _ v => v = .int i, fun _ h => h⟩
def aB (b : Bool) : As := ⟨fun _ v => v = .bl b, fun _ h => h⟩
def aS (s : Str) : As := ⟨fun _ v => v = .str s, fun _ h => h⟩
def aN : As := ⟨fun _ v => v = .non, fun _ h => h⟩
def aAny : As := ⟨fun _ _ => True, fun _ h => h⟩
abbrev AllA (G : Gh) : List V → List As → Prop := Paired (fun v (P : As) => P.p G v)
theorem AllA.up {G G' : Gh} (l : G.le G') : ∀ {vs : List V} {Ps : List As}, AllA G vs Ps → AllA G' vs Ps
  | _, _, .nil => .nil
  | _, _, .cons h t => .cons (As.up _ l h) (AllA.up l t)
theorem AllA.length {G : Gh} : ∀ {vs : List V} {Ps : List As}, AllA G vs Ps → vs.length = Ps.length
  | _, _, .nil => rfl
  | _, _, .cons _ t => congrArg (· + 1) (AllA.length t)
theorem AllA.get {G : Gh} : ∀ {vs : List V} {Ps : List As} {i : Nat} {P : As}, AllA G vs Ps → Ps[i]? = some P → ∃ v, vs[i]? = some v ∧ P.p G v
  | _, _, _, _, .nil, e => by simp at e
  | _, _, 0, _, .cons h _, e => by simp at e; subst e; exact ⟨_, rfl, h⟩
  | _, _, i + 1, _, .cons _ t, e => by
    obtain ⟨v, h1, h2⟩ := AllA.get t (i := i) (by simpa using e)
    exact ⟨v, by simpa using h1, h2⟩
theorem AllA.get' {G : Gh} : ∀ {vs : List V} {Ps : List As} {i : Nat} {v : V}, AllA G vs Ps → vs[i]? = some v → ∃ P, Ps[i]? = some P ∧ P.p G v
  | _, _, _, _, .nil, e => by simp at e
  | _, _, 0, _, .cons h _, e => by simp at e; subst e; exact ⟨_, rfl, h⟩
  | _, _, i + 1, _, .cons _ t, e => by
    obtain ⟨v, h1, h2⟩ := AllA.get' t (i := i) (by simpa using e)
    exact ⟨v, by simpa using h1, h2⟩
theorem AllA.append {G : Gh} : ∀ {vs ws : List V} {Ps Qs : List As}, AllA G vs Ps → AllA G ws Qs → AllA G (vs ++ ws) (Ps ++ Qs)
  | _, _, _, _, .nil, s => s
  | _, _, _, _, .cons h t, s => .cons h (AllA.append t s)
theorem AllA.drop {G : Gh} : ∀ {vs : List V} {Ps : List As} (n : Nat), AllA G vs Ps → AllA G (vs.drop n) (Ps.drop n)
  | _, _, 0, h => h
  | _, _, _ + 1, .nil => .nil
  | _, _, n + 1, .cons _ t => AllA.drop n t
theorem AllA.take {G : Gh} : ∀ {vs : List V} {Ps : List As} (n : Nat), AllA G vs Ps → AllA G (vs.take n) (Ps.take n)
  | _, _, 0, _ => .nil
  | _, _, _ + 1, .nil => .nil
  | _, _, n + 1, .cons h t => .cons h (AllA.take n t)
theorem AllA.rev {G : Gh} {vs : List V} {Ps : List As} (h : AllA G vs Ps) : AllA G vs.reverse Ps.reverse := by
  induction h with
  | nil => exact .nil
  | cons h _ ih => simp only [List.reverse_cons]; exact ih.append (.cons h .nil)
/-- a list, a tuple, item by item -/
def aL (Ps : List As) : As := ⟨fun G v => ∃ a vs, v = .ref a ∧ G a (.lst vs) ∧ AllA G vs Ps, fun l ⟨a, vs, e, g, h⟩ => ⟨a, vs, e, l _ _ g, h.up l⟩⟩
def aT (Ps : List As) : As := ⟨fun G v => ∃ a vs, v = .ref a ∧ G a (.tup vs) ∧ AllA G vs Ps, fun l ⟨a, vs, e, g, h⟩ => ⟨a, vs, e, l _ _ g, h.up l⟩⟩
abbrev aLI (ns : List Int) : As := aL (ns.map aI)
abbrev aTI (ns : List Int) : As := aT (ns.map aI)
/-- some x of a kind -/
def aEx {α : Type} (R : α → Prop) (A : α → As) : As := ⟨fun G v => ∃ x, R x ∧ (A x).p G v, fun l ⟨x, r, h⟩ => ⟨x, r, (A x).up l h⟩⟩
theorem allI {G : Gh} : ∀ {vs : List V} {ns : List Int}, AllA G vs (ns.map aI) → vs = ns.map V.int
  | _, [], .nil => rfl
  | _, n :: ns, .cons h t => by rw [allI t]; rw [show _ = V.int n from h]; rfl
theorem allI' {G : Gh} : ∀ {ns : List Int}, AllA G (ns.map V.int) (ns.map aI)
  | [] => .nil
  | n :: ns => .cons rfl allI'
/-! ### slots -/
theorem Sl.get : ∀ {Γ : List En} {G : Gh} {σ : L2.St} {H : Hp} {F : Addr → Prop} {i : Nat} {A : As}, Sl Γ G σ H F → Γ[i]? = some (.im A) → ∃ v, σ[i]? = some (some v) ∧ A.p G v
  | [], _, _, _, _, _, _, _, e => by simp at e
  | .no :: Γ, _, _, _, _, 0, _, _, e => by simp at e
  | .mu O :: Γ, _, _, _, _, 0, _, _, e => by simp at e
  | .im A :: Γ, _, _, _, _, 0, B, ⟨v, r, e1, ha, h⟩, e => by
    have e' : A = B := by simpa using e
    subst e' e1
    exact ⟨v, rfl, ha⟩
  | .no :: Γ, _, _, _, _, i + 1, _, ⟨o, r, e1, h⟩, e => by
    subst e1
    obtain ⟨v, h1, h2⟩ := Sl.get h (i := i) (by simpa using e)
    exact ⟨v, by simpa using h1, h2⟩
  | .im A :: Γ, _, _, _, _, i + 1, _, ⟨v0, r, e1, ha, h⟩, e => by
    subst e1
    obtain ⟨v, h1, h2⟩ := Sl.get h (i := i) (by simpa using e)
    exact ⟨v, by simpa using h1, h2⟩
  | .mu O :: Γ, _, _, _, _, i + 1, _, ⟨v0, r, F1, F2, e1, ho, h, hd, hs⟩, e => by
    subst e1
    obtain ⟨v, h1, h2⟩ := Sl.get h (i := i) (by simpa using e)
    exact ⟨v, by simpa using h1, h2⟩
theorem Sl.set : ∀ {Γ : List En} {G : Gh} {σ : L2.St} {H : Hp} {F : Addr → Prop} {i : Nat} {A : As} {v : V}, Sl Γ G σ H F → A.p G v → Sl (Γ.set i (.im A)) G (σ.set i (some v)) H F
  | [], _, _, _, _, _, _, _, h, _ => by
    have h' := h
    unfold Sl at h'
    subst h'
    simpa using h
  | .no :: Γ, _, _, _, _, 0, _, _, ⟨o, r, e, h⟩, ha => by subst e; exact ⟨_, r, rfl, ha, h⟩
  | .im A :: Γ, _, _, _, _, 0, _, _, ⟨o, r, e, _, h⟩, ha => by subst e; exact ⟨_, r, rfl, ha, h⟩
  | .mu O :: Γ, _, _, _, _, 0, _, _, ⟨o, r, F1, F2, e, _, h, _, hs⟩, ha => by subst e; exact ⟨_, r, rfl, ha, h.mono .rfl' (fun _ _ _ e => e) fun a f => hs a (.inr f)⟩
  | .no :: Γ, _, _, _, _, i + 1, _, _, ⟨o, r, e, h⟩, ha => by subst e; exact ⟨o, _, rfl, Sl.set h ha⟩
  | .im A :: Γ, _, _, _, _, i + 1, _, _, ⟨o, r, e, h0, h⟩, ha => by subst e; exact ⟨o, _, rfl, h0, Sl.set h ha⟩
  | .mu O :: Γ, _, _, _, _, i + 1, _, _, ⟨o, r, F1, F2, e, h0, h, hd, hs⟩, ha => by subst e; exact ⟨o, _, F1, F2, rfl, h0, Sl.set h ha, hd, hs⟩
theorem Sl.forget : ∀ {Γ : List En} {G : Gh} {σ : L2.St} {H : Hp} {F : Addr → Prop} {i : Nat}, Sl Γ G σ H F → Sl (Γ.set i .no) G σ H F
  | [], _, _, _, _, _, h => by simpa using h
  | .no :: Γ, _, _, _, _, 0, h => h
  | .im A :: Γ, _, _, _, _, 0, ⟨o, r, e, _, h⟩ => ⟨_, r, e, h⟩
  | .mu O :: Γ, _, _, _, _, 0, ⟨o, r, F1, F2, e, _, h, _, hs⟩ => ⟨_, r, e, h.mono .rfl' (fun _ _ _ e => e) fun a f => hs a (.inr f)⟩
  | .no :: Γ, _, _, _, _, i + 1, ⟨o, r, e, h⟩ => ⟨o, r, e, Sl.forget h⟩
  | .im A :: Γ, _, _, _, _, i + 1, ⟨o, r, e, h0, h⟩ => ⟨o, r, e, h0, Sl.forget h⟩
  | .mu O :: Γ, _, _, _, _, i + 1, ⟨o, r, F1, F2, e, h0, h, hd, hs⟩ => ⟨o, r, F1, F2, e, h0, Sl.forget h, hd, hs⟩
/-- the store forgets a slot -/
theorem Sl.wipe1 : ∀ {Γ : List En} {G : Gh} {σ : L2.St} {H : Hp} {F : Addr → Prop} {i : Nat}, Sl Γ G σ H F → Sl (Γ.set i .no) G (σ.set i none) H F
  | [], _, _, _, _, _, h => by
    have h' := h
    unfold Sl at h'
    subst h'
    simpa using h
  | .no :: Γ, _, _, _, _, 0, ⟨o, r, e, h⟩ => by subst e; exact ⟨_, r, rfl, h⟩
  | .im A :: Γ, _, _, _, _, 0, ⟨o, r, e, _, h⟩ => by subst e; exact ⟨_, r, rfl, h⟩
  | .mu O :: Γ, _, _, _, _, 0, ⟨o, r, F1, F2, e, _, h, _, hs⟩ => by subst e; exact ⟨_, r, rfl, h.mono .rfl' (fun _ _ _ e => e) fun a f => hs a (.inr f)⟩
  | .no :: Γ, _, _, _, _, i + 1, ⟨o, r, e, h⟩ => by subst e; exact ⟨o, _, rfl, Sl.wipe1 h⟩
  | .im A :: Γ, _, _, _, _, i + 1, ⟨o, r, e, h0, h⟩ => by subst e; exact ⟨o, _, rfl, h0, Sl.wipe1 h⟩
  | .mu O :: Γ, _, _, _, _, i + 1, ⟨o, r, F1, F2, e, h0, h, hd, hs⟩ => by subst e; exact ⟨o, _, F1, F2, rfl, h0, Sl.wipe1 h, hd, hs⟩
theorem Sl.len : ∀ {Γ : List En} {G : Gh} {σ : L2.St} {H : Hp} {F : Addr → Prop}, Sl Γ G σ H F → σ.length = Γ.length
  | [], _, _, _, _, h => by
    have h' := h
    unfold Sl at h'
    subst h'
    rfl
  | .no :: Γ, _, _, _, _, ⟨o, r, e, h⟩ => by subst e; exact congrArg (· + 1) (Sl.len h)
  | .im A :: Γ, _, _, _, _, ⟨o, r, e, _, h⟩ => by subst e; exact congrArg (· + 1) (Sl.len h)
  | .mu O :: Γ, _, _, _, _, ⟨o, r, F1, F2, e, _, h, _, hs⟩ => by subst e; exact congrArg (· + 1) (Sl.len h)
theorem OK.set {Γ : List En} {G : Gh} {σ : L2.St} {H : Hp} {F : Addr → Prop} {A : As} {v : V} (i : Nat) (k : OK Γ G σ H F) (h : A.p G v) : OK (Γ.set i (.im A)) G (σ.set i (some v)) H F := ⟨k.sl.set h, k.fit, k.off, k.th⟩
theorem OK.forget {Γ : List En} {G : Gh} {σ : L2.St} {H : Hp} {F : Addr → Prop} (i : Nat) (k : OK Γ G σ H F) : OK (Γ.set i .no) G σ H F := ⟨k.sl.forget, k.fit, k.off, k.th⟩
def wipeΓ (Γ : List En) : List Nat → List En
  | [] => Γ
  | v :: vs => (wipeΓ Γ vs).set v .no
theorem OK.wipe {Γ : List En} {G : Gh} {σ : L2.St} {H : Hp} {F : Addr → Prop} (k : OK Γ G σ H F) : ∀ vs : List Nat, OK (wipeΓ Γ vs) G (wipe σ vs) H F
  | [] => k
  | v :: vs => by
    have q := OK.wipe k vs
    exact ⟨q.sl.wipe1, q.fit, q.off, q.th⟩
/-- one owned slot, taken out and put back -/
theorem Sl.own : ∀ {Γ : List En} {G : Gh} {σ : L2.St} {H : Hp} {F : Addr → Prop} {i : Nat} {O : Ob}, Sl Γ G σ H F → Γ[i]? = some (.mu O) → (∀ a, F a → H a ≠ none) →
    ∃ v F1, σ[i]? = some (some v) ∧ O.at' v H G F1 ∧ (∀ a, F1 a → F a) ∧
      ∀ (O' : Ob) (v' : V) (G' : Gh) (H' : Hp) (F1' : Addr → Prop), G.le G' → (∀ a u, F a → ¬ F1 a → H a = some u → H' a = some u) → O'.at' v' H' G' F1' → (∀ a, F1' a → F1 a ∨ H a = none) →
        Sl (Γ.set i (.mu O')) G' (σ.set i (some v')) H' (fun a => (F a ∧ ¬ F1 a) ∨ F1' a)
  | [], _, _, _, _, _, _, _, e, _ => by simp at e
  | .no :: Γ, _, _, _, _, 0, _, _, e, _ => by simp at e
  | .im A :: Γ, _, _, _, _, 0, _, _, e, _ => by simp at e
  | .mu O :: Γ, G, _, H, F, 0, O2, ⟨v, r, F1, F2, e1, ho, h, hd, hs⟩, e, ht => by
    have e' : O = O2 := by simpa using e
    subst e' e1
    refine ⟨v, F1, rfl, ho, fun a f => hs a (.inl f), fun O' v' G' H' F1' hg hk ho' hf => ⟨v', r, F1', F2, rfl, ho', h.mono hg (fun a u f2 eu => hk a u (hs a (.inr f2)) (fun f1 => hd a f1 f2) eu) fun _ f => f, fun a f1 f2 => ?_, fun a f => ?_⟩⟩
    · rcases hf a f1 with z | z
      · exact hd a z f2
      · exact ht a (hs a (.inr f2)) z
    · rcases f with f | f
      · exact .inr f
      · exact .inl ⟨hs a (.inr f), fun f1 => hd a f1 f⟩
  | .no :: Γ, G, _, H, F, i + 1, O2, ⟨o, r, e1, h⟩, e, ht => by
    subst e1
    obtain ⟨v, F1, q1, q2, q3, q4⟩ := Sl.own h (i := i) (by simpa using e) ht
    exact ⟨v, F1, by simpa using q1, q2, q3, fun O' v' G' H' F1' hg hk ho' hf => ⟨o, _, rfl, q4 O' v' G' H' F1' hg hk ho' hf⟩⟩
  | .im A :: Γ, G, _, H, F, i + 1, O2, ⟨o, r, e1, ha, h⟩, e, ht => by
    subst e1
    obtain ⟨v, F1, q1, q2, q3, q4⟩ := Sl.own h (i := i) (by simpa using e) ht
    exact ⟨v, F1, by simpa using q1, q2, q3, fun O' v' G' H' F1' hg hk ho' hf => ⟨o, _, rfl, A.up hg ha, q4 O' v' G' H' F1' hg hk ho' hf⟩⟩
  | .mu O :: Γ, G, _, H, F, i + 1, O2, ⟨o, r, Fa, Fb, e1, ho, h, hd, hs⟩, e, ht => by
    subst e1
    obtain ⟨v, F1, q1, q2, q3, q4⟩ := Sl.own h (i := i) (by simpa using e) fun a f => ht a (hs a (.inr f))
    refine ⟨v, F1, by simpa using q1, q2, fun a f => hs a (.inr (q3 a f)), fun O' v' G' H' F1' hg hk ho' hf => ⟨o, _, Fa, _, rfl, O.stab ho (fun a u fa eu => hk a u (hs a (.inl fa)) (fun f1 => hd a fa (q3 a f1)) eu) hg,
      q4 O' v' G' H' F1' hg (fun a u fb nf eu => hk a u (hs a (.inr fb)) nf eu) ho' hf, fun a fa fb => ?_, fun a f => ?_⟩⟩
    · rcases fb with ⟨fb, _⟩ | fb
      · exact hd a fa fb
      · rcases hf a fb with z | z
        · exact hd a fa (q3 a z)
        · exact ht a (hs a (.inl fa)) z
    · rcases f with f | ⟨f, nf⟩ | f
      · exact .inl ⟨hs a (.inl f), fun f1 => hd a f (q3 a f1)⟩
      · exact .inl ⟨hs a (.inr f), nf⟩
      · exact .inr f
/-! ### names, constants, operators -/
section
variable {X : Cx} {Γ : List En} {a b c : Expr} {A B P : As} {pos : Pos}
theorem ev_var {i : Nat} (h : Γ[i]? = some (.im A)) : EV (tVar i) Γ A := fun G σ H F k Q q => by
  obtain ⟨v, e, ha⟩ := k.sl.get h
  exact ⟨v, e, q v G H F .rfl' k ha⟩
theorem x_var (i : Nat) {x : Str} (h : Γ[i]? = some (.im A) := by rfl) (hN : X.N[i]? = some x := by rfl) (hv : Vis X.env.scope x := by first | exact Or.inl rfl | exact Or.inr (Or.inl rfl) | exact Or.inr (Or.inr rfl))
    (hd : (x == ("__debug__" : Str)) = false := by decide) (hcd : (x == ("__classdict__" : Str)) = false := by decide) : XE X Γ (.Name x pos) A := XE.of (pe_var hN hv hd hcd) (ev_var h)
theorem ev_c {v : V} (h : ∀ G, P.p G v) : EV (tC v) Γ P := fun G σ H F k Q q => q v G H F .rfl' k (h G)
theorem x_int {i : Int} {j : Nat} : XE X Γ (.Constant (.int i) j pos) (aI i) := XE.of pe_int (ev_c fun _ => rfl)
theorem x_bl {i : Bool} {j : Nat} : XE X Γ (.Constant (.bool i) j pos) (aB i) := XE.of pe_bl (ev_c fun _ => rfl)
theorem x_non {j : Nat} : XE X Γ (.Constant .none j pos) aN := XE.of pe_non (ev_c fun _ => rfl)
theorem x_str {i : Str} {j : Nat} : XE X Γ (.Constant (.str i) j pos) (aS i) := XE.of pe_str (ev_c fun _ => rfl)
/-- an operator on two values -/
def RO (r : R2) (Γ : List En) (A B P : As) : Prop := ∀ (G : Gh) (σ : L2.St) (H : Hp) (F : Addr → Prop) (x y : V), OK Γ G σ H F → A.p G x → B.p G y → ∀ Q : VK, (∀ v G' H' F', Stp G H F G' H' F' → OK Γ G' σ H' F' → P.p G' v → Q v H') → r x y H Q
theorem ev_op {r : R2} {ta tb : TE} (ha : EV ta Γ A) (hb : EV tb Γ B) (hr : RO r Γ A B P) : EV (tOp r ta tb) Γ P := fun G σ H F k Q q =>
  ha G σ H F k _ fun x G1 H1 F1 s1 k1 p1 => hb G1 σ H1 F1 k1 _ fun y G2 H2 F2 s2 k2 p2 => hr G2 σ H2 F2 x y k2 (A.up s2.le p1) p2 Q fun v G3 H3 F3 s3 k3 p3 => q v G3 H3 F3 (s1.tr (s2.tr s3)) k3 p3
theorem x_op {op : Operator} {r : R2} (ho : OpR X (binaryOp op) r) (ha : XE X Γ a A) (hb : XE X Γ b B) (hr : RO r Γ A B P) : XE X Γ (.BinOp a op b pos) P := XE.of (pe_op ho pe_wp pe_wp) (ev_op ha hb hr)
theorem x_cmp {op : CmpOp} {r : R2} (ho : OpR X (compareOp op) r) (ha : XE X Γ a A) (hb : XE X Γ b B) (hr : RO r Γ A B P) (hm : behindInMarks op b = false) : XE X Γ (.Compare a [op] [b] pos) P := XE.of (pe_cmpR ho pe_wp pe_wp hm) (ev_op ha hb hr)
theorem et_test {te : TE} {k : Bool} (h : EV te Γ (aB k)) : ET (tTest te) Γ k := fun G σ H F o Q q => h G σ H F o _ fun v G' H' F' s k' p => ⟨k, p, q G' H' F' s k'⟩
theorem et_B {te : TE} {k : Bool} (h : EV te Γ (aB k)) : ET (tB te) Γ k := fun G σ H F o Q q => h G σ H F o _ fun v G' H' F' s k' p => ⟨k, p, q G' H' F' s k'⟩
theorem xt_cmp {op : CmpOp} {r : R2} {k : Bool} (ho : OpR X (compareOp op) r) (ha : XE X Γ a A) (hb : XE X Γ b B) (hr : RO r Γ A B (aB k)) (hm : behindInMarks op b = false) : XT X Γ (.Compare a [op] [b] pos) k := XT.of (pt_cmpR ho pe_wp pe_wp hm) (et_test (ev_op ha hb hr))
theorem xt_val {e : Expr} {k : Bool} (h : XE X Γ e (aB k)) (he : ∀ whole, isTrue e X.env whole = (do let v ← whole; standAt e.pos; holding [v] (truthy v)) := by intro _; rfl) : XT X Γ e k := XT.of (pt_val pe_wp he) (et_B h)
theorem ro_I0 {g : Int → Int → V} {i j : Int} (hP : ∀ G, P.p G (g i j)) : RO (rI0 g) Γ (aI i) (aI j) P := fun G σ H F x y k hx hy Q q => ⟨i, j, hx, hy, q _ G H F .rfl' k (hP G)⟩
theorem ro_I {C : Int → Int → Prop} {g : Int → Int → V} {i j : Int} (hC : C i j) (hP : ∀ G, P.p G (g i j)) : RO (rI C g) Γ (aI i) (aI j) P := fun G σ H F x y k hx hy Q q => ⟨i, j, hx, hy, hC, q _ G H F .rfl' k (hP G)⟩
variable {i j : Int}
theorem x_add (ha : XE X Γ a (aI i)) (hb : XE X Γ b (aI j)) : XE X Γ (.BinOp a .Add b pos) (aI (i + j)) := x_op op_add ha hb (ro_I0 fun _ => rfl)
theorem x_sub (ha : XE X Γ a (aI i)) (hb : XE X Γ b (aI j)) : XE X Γ (.BinOp a .Sub b pos) (aI (i - j)) := x_op op_sub ha hb (ro_I0 fun _ => rfl)
theorem x_mul (ha : XE X Γ a (aI i)) (hb : XE X Γ b (aI j)) (h : CMul i j) : XE X Γ (.BinOp a .Mult b pos) (aI (i * j)) := x_op op_mul ha hb (ro_I h fun _ => rfl)
theorem x_mulW (ha : XE X Γ a (aI i)) (hb : XE X Γ b (aI j)) (h : CMulW i j) : XE X Γ (.BinOp a .Mult b pos) (aI (i * j)) := x_op op_mulW ha hb (ro_I h fun _ => rfl)
theorem x_mod (ha : XE X Γ a (aI i)) (hb : XE X Γ b (aI j)) (h : 0 < j) : XE X Γ (.BinOp a .Mod b pos) (aI (i % j)) := x_op op_mod ha hb (ro_I h fun _ => rfl)
theorem x_fdiv (ha : XE X Γ a (aI i)) (hb : XE X Γ b (aI j)) (h : CDivW i j) : XE X Γ (.BinOp a .FloorDiv b pos) (aI (i / j)) := x_op op_fdivW ha hb (ro_I h fun _ => rfl)
theorem x_neg (ha : XE X Γ a (aI i)) : XE X Γ (.UnaryOp .USub a pos) (aI (-i)) := XE.of (pe_un un_neg pe_wp) fun G σ H F k Q q => ha G σ H F k _ fun v G' H' F' s k' p => ⟨i, p, q _ G' H' F' s k' rfl⟩
theorem x_lt (ha : XE X Γ a (aI i)) (hb : XE X Γ b (aI j)) : XE X Γ (.Compare a [.Lt] [b] pos) (aB (decide (i < j))) := x_cmp op_lt ha hb (ro_I0 fun _ => rfl) (nomark _)
theorem x_le (ha : XE X Γ a (aI i)) (hb : XE X Γ b (aI j)) : XE X Γ (.Compare a [.LtE] [b] pos) (aB (decide (i ≤ j))) := x_cmp op_le ha hb (ro_I0 fun _ => rfl) (nomark _)
theorem x_gt (ha : XE X Γ a (aI i)) (hb : XE X Γ b (aI j)) : XE X Γ (.Compare a [.Gt] [b] pos) (aB (decide (j < i))) := x_cmp op_gt ha hb (ro_I0 fun _ => rfl) (nomark _)
theorem x_ge (ha : XE X Γ a (aI i)) (hb : XE X Γ b (aI j)) : XE X Γ (.Compare a [.GtE] [b] pos) (aB (decide (j ≤ i))) := x_cmp op_ge ha hb (ro_I0 fun _ => rfl) (nomark _)
theorem xt_lt (ha : XE X Γ a (aI i)) (hb : XE X Γ b (aI j)) : XT X Γ (.Compare a [.Lt] [b] pos) (decide (i < j)) := xt_cmp op_lt ha hb (ro_I0 fun _ => rfl) (nomark _)
theorem xt_le (ha : XE X Γ a (aI i)) (hb : XE X Γ b (aI j)) : XT X Γ (.Compare a [.LtE] [b] pos) (decide (i ≤ j)) := xt_cmp op_le ha hb (ro_I0 fun _ => rfl) (nomark _)
theorem xt_gt (ha : XE X Γ a (aI i)) (hb : XE X Γ b (aI j)) : XT X Γ (.Compare a [.Gt] [b] pos) (decide (j < i)) := xt_cmp op_gt ha hb (ro_I0 fun _ => rfl) (nomark _)
theorem xt_ge (ha : XE X Γ a (aI i)) (hb : XE X Γ b (aI j)) : XT X Γ (.Compare a [.GtE] [b] pos) (decide (j ≤ i)) := xt_cmp op_ge ha hb (ro_I0 fun _ => rfl) (nomark _)
theorem ro_eq {x y : V} {A B : As} (hx : ∀ G v, A.p G v → v = x) (hy : ∀ G v, B.p G v → v = y) (h : scal x y = true) : RO rEq Γ A B (aB (decide (x = y))) := fun G σ H F v w k pv pw Q q => by
  cases hx G v pv
  cases hy G w pw
  exact ⟨h, q _ G H F .rfl' k rfl⟩
theorem ro_ne {x y : V} {A B : As} (hx : ∀ G v, A.p G v → v = x) (hy : ∀ G v, B.p G v → v = y) (h : scal x y = true) : RO rNe Γ A B (aB (!decide (x = y))) := fun G σ H F v w k pv pw Q q => by
  cases hx G v pv
  cases hy G w pw
  exact ⟨h, q _ G H F .rfl' k rfl⟩
theorem decI {i j : Int} : decide (V.int i = V.int j) = decide (i = j) := by by_cases h : i = j <;> simp [h]
theorem decB {i j : Bool} : decide (V.bl i = V.bl j) = (i == j) := by cases i <;> cases j <;> rfl
theorem decS {i j : Str} : decide (V.str i = V.str j) = decide (i = j) := by by_cases h : i = j <;> simp [h]
theorem aBeq {Γ : List En} {r : R2} {A B : As} {k k' : Bool} (h : RO r Γ A B (aB k)) (e : k = k') : RO r Γ A B (aB k') := e ▸ h
theorem x_eqI (ha : XE X Γ a (aI i)) (hb : XE X Γ b (aI j)) : XE X Γ (.Compare a [.Eq] [b] pos) (aB (decide (i = j))) := x_cmp op_eq ha hb (aBeq (ro_eq (x := .int i) (y := .int j) (fun _ _ h => h) (fun _ _ h => h) rfl) decI) (nomark _)
theorem x_neI (ha : XE X Γ a (aI i)) (hb : XE X Γ b (aI j)) : XE X Γ (.Compare a [.NotEq] [b] pos) (aB (!decide (i = j))) := x_cmp op_ne ha hb (aBeq (ro_ne (x := .int i) (y := .int j) (fun _ _ h => h) (fun _ _ h => h) rfl) (congrArg not decI)) (nomark _)
theorem xt_eqI (ha : XE X Γ a (aI i)) (hb : XE X Γ b (aI j)) : XT X Γ (.Compare a [.Eq] [b] pos) (decide (i = j)) := xt_cmp op_eq ha hb (aBeq (ro_eq (x := .int i) (y := .int j) (fun _ _ h => h) (fun _ _ h => h) rfl) decI) (nomark _)
theorem xt_neI (ha : XE X Γ a (aI i)) (hb : XE X Γ b (aI j)) : XT X Γ (.Compare a [.NotEq] [b] pos) (!decide (i = j)) := xt_cmp op_ne ha hb (aBeq (ro_ne (x := .int i) (y := .int j) (fun _ _ h => h) (fun _ _ h => h) rfl) (congrArg not decI)) (nomark _)
theorem xt_eqB {i j : Bool} (ha : XE X Γ a (aB i)) (hb : XE X Γ b (aB j)) : XT X Γ (.Compare a [.Eq] [b] pos) (i == j) := xt_cmp op_eq ha hb (aBeq (ro_eq (x := .bl i) (y := .bl j) (fun _ _ h => h) (fun _ _ h => h) rfl) decB) (nomark _)
theorem xt_neB {i j : Bool} (ha : XE X Γ a (aB i)) (hb : XE X Γ b (aB j)) : XT X Γ (.Compare a [.NotEq] [b] pos) (!(i == j)) := xt_cmp op_ne ha hb (aBeq (ro_ne (x := .bl i) (y := .bl j) (fun _ _ h => h) (fun _ _ h => h) rfl) (congrArg not decB)) (nomark _)
theorem x_eqB {i j : Bool} (ha : XE X Γ a (aB i)) (hb : XE X Γ b (aB j)) : XE X Γ (.Compare a [.Eq] [b] pos) (aB (i == j)) := x_cmp op_eq ha hb (aBeq (ro_eq (x := .bl i) (y := .bl j) (fun _ _ h => h) (fun _ _ h => h) rfl) decB) (nomark _)
theorem xt_eqS {i j : Str} (ha : XE X Γ a (aS i)) (hb : XE X Γ b (aS j)) : XT X Γ (.Compare a [.Eq] [b] pos) (decide (i = j)) := xt_cmp op_eq ha hb (aBeq (ro_eq (x := .str i) (y := .str j) (fun _ _ h => h) (fun _ _ h => h) rfl) decS) (nomark _)
theorem xt_neS {i j : Str} (ha : XE X Γ a (aS i)) (hb : XE X Γ b (aS j)) : XT X Γ (.Compare a [.NotEq] [b] pos) (!decide (i = j)) := xt_cmp op_ne ha hb (aBeq (ro_ne (x := .str i) (y := .str j) (fun _ _ h => h) (fun _ _ h => h) rfl) (congrArg not decS)) (nomark _)
theorem x_eqS {i j : Str} (ha : XE X Γ a (aS i)) (hb : XE X Γ b (aS j)) : XE X Γ (.Compare a [.Eq] [b] pos) (aB (decide (i = j))) := x_cmp op_eq ha hb (aBeq (ro_eq (x := .str i) (y := .str j) (fun _ _ h => h) (fun _ _ h => h) rfl) decS) (nomark _)
/-! ### and, or, not, if -/
theorem xt_not {k : Bool} (h : XT X Γ a k) : XT X Γ (.UnaryOp .Not a pos) (!k) := XT.of (pt_not pt_wp) fun G σ H F o Q q => h G σ H F o _ fun G' H' F' s k' => q G' H' F' s k'
theorem x_not {k : Bool} (h : XE X Γ a (aB k)) : XE X Γ (.UnaryOp .Not a pos) (aB (!k)) := XE.of (pe_not pe_wp) fun G σ H F o Q q => h G σ H F o _ fun v G' H' F' s k' p => ⟨k, p, q _ G' H' F' s k' rfl⟩
def wpW (X : Cx) (e : Expr) : TT := fun σ H Q => ∀ whole pins s, Inv X pins σ H s → wpAny (model X.prog X.w) X.A (isTrue e X.env whole) (TP X pins σ Q) X.xe s
theorem pw_wp {e : Expr} : PW X e (wpW X e) := ⟨fun whole pins s σ H Q I h => h whole pins s I⟩
abbrev XW (X : Cx) (Γ : List En) (e : Expr) (b : Bool) : Prop := ET (wpW X e) Γ b
theorem XW.of {e : Expr} {t : TT} {k : Bool} (h : PW X e t) (ev : ET t Γ k) : XW X Γ e k := fun G σ H F o Q q => fun whole pins s I => h.run whole pins s σ H Q I (ev G σ H F o Q q)
theorem xt_w {e : Expr} {k : Bool} (h : XW X Γ e k) : XT X Γ e k := XT.of pw_wp.pt h
theorem xw_and1 {k : Bool} (h : XT X Γ a k) : XW X Γ (.BoolOp .And [a] pos) k := XW.of (pw_and1 pt_wp) h
theorem xw_or1 {k : Bool} (h : XT X Γ a k) : XW X Γ (.BoolOp .Or [a] pos) k := XW.of (pw_or1 pt_wp) h
theorem xw_and {rest : List Expr} {k l : Bool} (h : XT X Γ a k) (h2 : k = true → XW X Γ (.BoolOp .And (b :: rest) pos) l) : XW X Γ (.BoolOp .And (a :: b :: rest) pos) (k && l) :=
  XW.of (pw_and pt_wp pw_wp) fun G σ H F o Q q => h G σ H F o _ fun G' H' F' s k' => by
    cases k with
    | true => exact h2 rfl G' σ H' F' k' Q fun G2 H2 F2 s2 k2 => q G2 H2 F2 (s.tr s2) k2
    | false => exact q G' H' F' s k'
theorem xw_or {rest : List Expr} {k l : Bool} (h : XT X Γ a k) (h2 : k = false → XW X Γ (.BoolOp .Or (b :: rest) pos) l) : XW X Γ (.BoolOp .Or (a :: b :: rest) pos) (k || l) :=
  XW.of (pw_or pt_wp pw_wp) fun G σ H F o Q q => h G σ H F o _ fun G' H' F' s k' => by
    cases k with
    | false => exact h2 rfl G' σ H' F' k' Q fun G2 H2 F2 s2 k2 => q G2 H2 F2 (s.tr s2) k2
    | true => exact q G' H' F' s k'
/-- as values, all of them bools -/
theorem x_one {op : BoolOp} (h : XE X Γ a P) : XE X Γ (.BoolOp op [a] pos) P := XE.of (pe_one pe_wp) h
theorem x_and {rest : List Expr} {k l : Bool} (h : XE X Γ a (aB k)) (h2 : k = true → XE X Γ (.BoolOp .And (b :: rest) pos) (aB l)) : XE X Γ (.BoolOp .And (a :: b :: rest) pos) (aB (k && l)) :=
  XE.of (pe_and pe_wp pe_wp) fun G σ H F o Q q => h G σ H F o _ fun v G' H' F' s k' p => ⟨k, p, by
    cases k with
    | true => exact h2 rfl G' σ H' F' k' Q fun w G2 H2 F2 s2 k2 => q w G2 H2 F2 (s.tr s2) k2
    | false => exact q _ G' H' F' s k' rfl⟩
theorem x_or {rest : List Expr} {k l : Bool} (h : XE X Γ a (aB k)) (h2 : k = false → XE X Γ (.BoolOp .Or (b :: rest) pos) (aB l)) : XE X Γ (.BoolOp .Or (a :: b :: rest) pos) (aB (k || l)) :=
  XE.of (pe_or pe_wp pe_wp) fun G σ H F o Q q => h G σ H F o _ fun v G' H' F' s k' p => ⟨k, p, by
    cases k with
    | false => exact h2 rfl G' σ H' F' k' Q fun w G2 H2 F2 s2 k2 => q w G2 H2 F2 (s.tr s2) k2
    | true => exact q _ G' H' F' s k' rfl⟩
theorem x_if {k : Bool} (h : XT X Γ c k) (h1 : k = true → XE X Γ a P) (h2 : k = false → XE X Γ b P) : XE X Γ (.IfExp c a b pos) P :=
  XE.of (pe_ifExp pt_wp pe_wp pe_wp) fun G σ H F o Q q => h G σ H F o _ fun G' H' F' s k' => by
    cases k with
    | true => exact h1 rfl G' σ H' F' k' Q fun w G2 H2 F2 s2 k2 => q w G2 H2 F2 (s.tr s2) k2
    | false => exact h2 rfl G' σ H' F' k' Q fun w G2 H2 F2 s2 k2 => q w G2 H2 F2 (s.tr s2) k2
/-! ### displays, arguments -/
theorem xa_nil : XA X Γ [] [] := XA.of pa_nil fun G σ H F k Q q => q [] G H F .rfl' k .nil
theorem xa_cons {e : Expr} {es : List Expr} {Ps : List As} (ha : XE X Γ e P) (hr : XA X Γ es Ps) (hs : starEach (e :: es) X.env = (false, eval e X.env) :: starEach es X.env := by rfl) : XA X Γ (e :: es) (P :: Ps) :=
  XA.of (pa_cons pe_wp pa_wp hs) fun G σ H F k Q q => ha G σ H F k _ fun v G1 H1 F1 s1 k1 p1 => hr G1 σ H1 F1 k1 _ fun vs G2 H2 F2 s2 k2 p2 => q _ G2 H2 F2 (s1.tr s2) k2 (.cons (P.up s2.le p1) p2)
theorem x_tup {es : List Expr} {Ps : List As} {j : Nat} (h : XA X Γ es Ps) (hl : Ps.length ≤ sizeLine := by first | decide | exact Nat.le_of_ble_eq_true rfl) : XE X Γ (.Tuple es j pos) (aT Ps) :=
  XE.of (pe_tup pa_wp) fun G σ H F k Q q => h G σ H F k _ fun vs G1 H1 F1 s1 k1 p1 => ⟨by rw [p1.length]; exact hl, fun p hp => q _ _ _ F1 (s1.tr (.new' hp)) (k1.new hp) ⟨p, vs, rfl, Gh.add_at, AllA.up Gh.le_add p1⟩⟩
theorem x_lst {es : List Expr} {Ps : List As} (h : XA X Γ es Ps) (hl : Ps.length ≤ sizeLine := by first | decide | exact Nat.le_of_ble_eq_true rfl) : XE X Γ (.List es pos) (aL Ps) :=
  XE.of (pe_lst pa_wp) fun G σ H F k Q q => h G σ H F k _ fun vs G1 H1 F1 s1 k1 p1 => ⟨by rw [p1.length]; exact hl, fun p hp => q _ _ _ F1 (s1.tr (.new' hp)) (k1.new hp) ⟨p, vs, rfl, Gh.add_at, AllA.up Gh.le_add p1⟩⟩
/-- a built-in's call -/
def RC (r : List V → Hp → VK → Prop) (Γ : List En) (Ps : List As) (P : As) : Prop := ∀ (G : Gh) (σ : L2.St) (H : Hp) (F : Addr → Prop) (vs : List V), OK Γ G σ H F → AllA G vs Ps → ∀ Q : VK, (∀ v G' H' F', Stp G H F G' H' F' → OK Γ G' σ H' F' → P.p G' v → Q v H') → r vs H Q
theorem x_callB {x : Str} {p : Pos} {e : Expr} {es : List Expr} {id : String} {r : List V → Hp → VK → Prop} {Ps : List As} (hc : CallR X (.builtin id) r) (hm : X.mg x = none) (hv : bootBuiltins x = some (.builtin id)) (ha : XA X Γ (e :: es) Ps) (hr : RC r Γ Ps P) (hg : Gl X x := by rfl)
    (hn : x ≠ "__name__" := by decide) (hdb : (x == ("__debug__" : Str)) = false := by decide) (he : starEach (e :: es) X.env = (false, eval e X.env) :: starEach es X.env := by rfl) (hpl : (backTo pos (starEach es X.env)).any (·.1) = false := by rfl) : XE X Γ (.Call (.Name x p) (e :: es) [] pos) P :=
  XE.of (pe_callB hc hg hm hv pa_wp hn hdb he hpl) fun G σ H F k Q q => ha G σ H F k _ fun vs G1 H1 F1 s1 k1 p1 => hr G1 σ H1 F1 vs k1 p1 Q fun v G2 H2 F2 s2 k2 => q v G2 H2 F2 (s1.tr s2) k2
theorem x_callTy {x : Str} {p : Pos} {e : Expr} {es : List Expr} {T : String} {r : List V → Hp → VK → Prop} {Ps : List As} (hc : CallR X (.type T) r) (hm : X.mg x = none) (hv : bootBuiltins x = some (.type T)) (ha : XA X Γ (e :: es) Ps) (hr : RC r Γ Ps P) (hg : Gl X x := by rfl)
    (hn : x ≠ "__name__" := by decide) (hdb : (x == ("__debug__" : Str)) = false := by decide) (he : starEach (e :: es) X.env = (false, eval e X.env) :: starEach es X.env := by rfl) (hpl : (backTo pos (starEach es X.env)).any (·.1) = false := by rfl) : XE X Γ (.Call (.Name x p) (e :: es) [] pos) P :=
  XE.of (pe_callTy hc hg hm hv pa_wp hn hdb he hpl) fun G σ H F k Q q => ha G σ H F k _ fun vs G1 H1 F1 s1 k1 p1 => hr G1 σ H1 F1 vs k1 p1 Q fun v G2 H2 F2 s2 k2 => q v G2 H2 F2 (s1.tr s2) k2
theorem fit_l {Γ : List En} {G : Gh} {σ : L2.St} {H : Hp} {F : Addr → Prop} {K : PySem.W.Frag} {a : Addr} {vs : List V} (k : OK Γ G σ H F) (g : G a (.lst vs)) : SqL K H a vs := .inl (k.fit _ _ g).rd
theorem fit_t {Γ : List En} {G : Gh} {σ : L2.St} {H : Hp} {F : Addr → Prop} {K : PySem.W.Frag} {a : Addr} {vs : List V} (k : OK Γ G σ H F) (g : G a (.tup vs)) : SqT K H a vs := .inl (k.fit _ _ g).rd
theorem x_lenL {x : Str} {p : Pos} {e : Expr} {Ps : List As} (hm : X.mg "len" = none) (ha : XE X Γ e (aL Ps)) (hg : Gl X "len" := by rfl) (he : starEach [e] X.env = [(false, eval e X.env)] := by rfl) : XE X Γ (.Call (.Name "len" p) [e] [] pos) (aI Ps.length) :=
  x_callB call_len_seq hm boot_len (xa_cons ha xa_nil he) (fun G σ H F vs k h Q q => by
    cases h with
    | cons h t =>
      cases t
      obtain ⟨a, ws, e, g, hh⟩ := h
      subst e
      exact ⟨a, ws, rfl, .inl (fit_l k g), q _ G H F .rfl' k (by rw [hh.length]; rfl)⟩) hg (by decide) (by decide) he
theorem x_lenT {x : Str} {p : Pos} {e : Expr} {Ps : List As} (hm : X.mg "len" = none) (ha : XE X Γ e (aT Ps)) (hg : Gl X "len" := by rfl) (he : starEach [e] X.env = [(false, eval e X.env)] := by rfl) : XE X Γ (.Call (.Name "len" p) [e] [] pos) (aI Ps.length) :=
  x_callB call_len_seq hm boot_len (xa_cons ha xa_nil he) (fun G σ H F vs k h Q q => by
    cases h with
    | cons h t =>
      cases t
      obtain ⟨a, ws, e, g, hh⟩ := h
      subst e
      exact ⟨a, ws, rfl, .inr (fit_t k g), q _ G H F .rfl' k (by rw [hh.length]; rfl)⟩) hg (by decide) (by decide) he
end
end NS
namespace NS
open PySem L2 PySem.Spec
/-! ### a fresh list -/
def EF (te : TE) (Γ : List En) (Ps : List As) : Prop := ∀ (G : Gh) (σ : L2.St) (H : Hp) (F : Addr → Prop), OK Γ G σ H F → ∀ Q : VK, (∀ p vs G' H' F', Stp G H F G' H' F' → OK Γ G' σ H' F' → H p = none → H' p = some (.lst vs) → (∀ u, ¬ G' p u) → ¬ F' p → AllA G' vs Ps → Q (.ref p) H') → te σ H Q
abbrev XF (X : Cx) (Γ : List En) (e : Expr) (Ps : List As) : Prop := EF (wpE X e) Γ Ps
theorem XF.of {X : Cx} {e : Expr} {Γ : List En} {Ps : List As} {t : TE} (h : PE X e t) (ev : EF t Γ Ps) : XF X Γ e Ps := fun G σ H F k Q q => fun pins s I => h.run pins s σ H Q I (ev G σ H F k Q q)
theorem OK.fix {Γ : List En} {G : Gh} {σ : L2.St} {H : Hp} {F : Addr → Prop} {p : Addr} {u : HO} (k : OK Γ G σ H F) (hp : H p = some u) (nf : ¬ F p) : OK Γ (G.add p u) σ H F where
  sl := k.sl.mono Gh.le_add (fun _ _ _ e => e) fun _ f => f
  fit := fun a w g => by
    rcases g with g | ⟨rfl, rfl⟩
    · exact k.fit a w g
    · exact .inl hp
  off := fun a w f g => by
    rcases g with g | ⟨rfl, _⟩
    · exact k.off a w f g
    · exact nf f
  th := k.th
theorem Stp.fix {G : Gh} {H : Hp} {F : Addr → Prop} {G' : Gh} {H' : Hp} {F' : Addr → Prop} {p : Addr} {u : HO} (s : Stp G H F G' H' F') (hp : H p = none) : Stp G H F (G'.add p u) H' F' where
  le := s.le.tr Gh.le_add
  keep := s.keep
  new := fun a w g => by
    rcases g with g | ⟨rfl, _⟩
    · exact s.new a w g
    · exact .inr (.inl hp)
  grow := s.grow
  live := s.live
theorem EF.ev {te : TE} {Γ : List En} {Ps : List As} (h : EF te Γ Ps) : EV te Γ (aL Ps) := fun G σ H F k Q q => h G σ H F k Q fun p vs G' H' F' s k' hp hl no nf ha =>
  q _ (G'.add p (.lst vs)) H' F' (s.fix hp) (k'.fix hl nf) ⟨p, vs, rfl, Gh.add_at, AllA.up Gh.le_add ha⟩
theorem x_frz {X : Cx} {e : Expr} {Γ : List En} {Ps : List As} (h : XF X Γ e Ps) : XE X Γ e (aL Ps) := h.ev
theorem OK.off' {Γ : List En} {G : Gh} {σ : L2.St} {H : Hp} {F : Addr → Prop} {p : Addr} (k : OK Γ G σ H F) (hp : H p = none) : (∀ u, ¬ G p u) ∧ ¬ F p := ⟨fun u g => (k.fit p u g).some hp, fun f => k.th p f hp⟩
/-- the ending of a rule that lays one list -/
theorem lay_l {Γ : List En} {G : Gh} {σ : L2.St} {H : Hp} {F : Addr → Prop} {G0 : Gh} {H0 : Hp} {F0 : Addr → Prop} {p : Addr} {vs : List V} {Ps : List As} {Q : VK} (s : Stp G0 H0 F0 G H F) (k : OK Γ G σ H F) (hp : H p = none) (ha : AllA G vs Ps)
    (q : ∀ p vs G' H' F', Stp G0 H0 F0 G' H' F' → OK Γ G' σ H' F' → H0 p = none → H' p = some (.lst vs) → (∀ u, ¬ G' p u) → ¬ F' p → AllA G' vs Ps → Q (.ref p) H') : Q (.ref p) (upd H p (.lst vs)) := by
  obtain ⟨n1, n2⟩ := k.off' hp
  refine q p vs G _ F (s.tr (.same (same_new hp))) (k.same (same_new hp)) ?_ upd_same n1 n2 ha
  exact Classical.byContradiction fun n => s.live p n hp
section
variable {X : Cx} {Γ : List En} {a b e : Expr} {es : List Expr} {Ps Qs : List As} {pos : Pos}
theorem xf_lst (h : XA X Γ es Ps) (hl : Ps.length ≤ sizeLine := by first | decide | exact Nat.le_of_ble_eq_true rfl) : XF X Γ (.List es pos) Ps :=
  XF.of (pe_lst pa_wp) fun G σ H F k Q q => h G σ H F k _ fun vs G1 H1 F1 s1 k1 p1 => ⟨by rw [p1.length]; exact hl, fun p hp => lay_l s1 k1 hp p1 q⟩
theorem xf_cat (ha : XE X Γ a (aL Ps)) (hb : XE X Γ b (aL Qs)) (hl : Ps.length + Qs.length ≤ sizeLine) : XF X Γ (.BinOp a .Add b pos) (Ps ++ Qs) :=
  XF.of (pe_op op_cat pe_wp pe_wp) fun G σ H F k Q q => ha G σ H F k _ fun x G1 H1 F1 s1 k1 p1 => hb G1 σ H1 F1 k1 _ fun y G2 H2 F2 s2 k2 p2 => by
    obtain ⟨l, xs, rfl, g1, h1⟩ := p1
    obtain ⟨m, ys, rfl, g2, h2⟩ := p2
    exact ⟨l, m, xs, ys, rfl, rfl, (k2.fit _ _ (s2.le _ _ g1)).lst, (k2.fit _ _ g2).lst, by rw [h1.length, h2.length]; exact hl, fun p hp => lay_l (s1.tr s2) k2 hp ((h1.up s2.le).append h2) q⟩
theorem allA_rep {G : Gh} {vs : List V} {Ps : List As} (h : AllA G vs Ps) : ∀ n : Nat, AllA G (List.replicate n vs).flatten (List.replicate n Ps).flatten
  | 0 => .nil
  | n + 1 => by simp only [List.replicate_succ, List.flatten_cons]; exact h.append (allA_rep h n)
theorem xf_rep {n : Int} (ha : XE X Γ a (aL Ps)) (hb : XE X Γ b (aI n)) (h0 : -(2 ^ 63) ≤ n) (h1 : n < 2 ^ 63) (hl : Ps.length * n.toNat ≤ sizeLine) : XF X Γ (.BinOp a .Mult b pos) (List.replicate n.toNat Ps).flatten :=
  XF.of (pe_op op_rep pe_wp pe_wp) fun G σ H F k Q q => ha G σ H F k _ fun x G1 H1 F1 s1 k1 p1 => hb G1 σ H1 F1 k1 _ fun y G2 H2 F2 s2 k2 p2 => by
    obtain ⟨l, xs, rfl, g1, h1'⟩ := p1
    have p2 : y = .int n := p2
    subst p2
    exact ⟨l, n, xs, rfl, rfl, (k2.fit _ _ (s2.le _ _ g1)).lst, h0, h1, by rw [h1'.length]; exact hl, fun p hp => lay_l (s1.tr s2) k2 hp (allA_rep (h1'.up s2.le) _) q⟩
/-- slices -/
def EO (t : TO) (Γ : List En) (o : Option Int) : Prop := ∀ (G : Gh) (σ : L2.St) (H : Hp) (F : Addr → Prop), OK Γ G σ H F → ∀ Q : Option Int → Hp → Prop, (∀ G' H' F', Stp G H F G' H' F' → OK Γ G' σ H' F' → Q o H') → t σ H Q
structure XO (X : Cx) (Γ : List En) (e : Option Expr) (o : Option Int) : Prop where
  ex : ∃ t, PO X e t ∧ EO t Γ o
theorem xo_none : XO X Γ none none := ⟨_, po_none, fun G σ H F k Q q => q G H F .rfl' k⟩
theorem xo_some {i : Int} (h : XE X Γ e (aI i)) : XO X Γ (some e) (some i) := ⟨_, po_some pe_wp, fun G σ H F k Q q => h G σ H F k _ fun v G' H' F' s k' p => ⟨i, p, q G' H' F' s k'⟩⟩
def cutA {α : Type} (xs : List α) (lo hi : Option Int) : List α := (xs.drop (HT.sIx xs.length 0 lo)).take (HT.sIx xs.length xs.length hi - HT.sIx xs.length 0 lo)
theorem cutA_map {α β : Type} (f : α → β) (xs : List α) (lo hi : Option Int) : cutA (xs.map f) lo hi = (cutA xs lo hi).map f := by
  unfold cutA
  rw [List.length_map, ← List.map_drop, ← List.map_take]
theorem allA_cut {G : Gh} {vs : List V} {Ps : List As} (h : AllA G vs Ps) (lo hi : Option Int) : AllA G (cutV vs lo hi) (cutA Ps lo hi) := by
  unfold cutV cutA
  rw [h.length]
  exact (h.drop _).take _
theorem xf_slice {lo hi : Option Expr} {l h : Option Int} {p2 : Pos} (ha : XE X Γ a (aL Ps)) (hl : XO X Γ lo l) (hh : XO X Γ hi h) : XF X Γ (.Subscript a (.Slice lo hi none p2) pos) (cutA Ps l h) := by
  obtain ⟨t1, q1, e1⟩ := hl.ex
  obtain ⟨t2, q2, e2⟩ := hh.ex
  refine XF.of (pe_slice sl_list pe_wp q1 q2) fun G σ H F k Q q => ha G σ H F k _ fun x G1 H1 F1 s1 k1 p1 => e1 G1 σ H1 F1 k1 _ fun G2 H2 F2 s2 k2 => e2 G2 σ H2 F2 k2 _ fun G3 H3 F3 s3 k3 => ?_
  obtain ⟨m, xs, rfl, g, hA⟩ := p1
  have le := s2.le.tr s3.le
  exact ⟨m, xs, rfl, fit_l k3 (le _ _ g), fun p hp => lay_l (s1.tr (s2.tr s3)) k3 hp (allA_cut (hA.up le) _ _) q⟩
/-- a tuple's slice: the whole is itself -/
theorem x_sliceT {lo hi : Option Expr} {l h : Option Int} {p2 : Pos} (ha : XE X Γ a (aT Ps)) (hl : XO X Γ lo l) (hh : XO X Γ hi h) : XE X Γ (.Subscript a (.Slice lo hi none p2) pos) (aT (cutA Ps l h)) := by
  obtain ⟨t1, q1, e1⟩ := hl.ex
  obtain ⟨t2, q2, e2⟩ := hh.ex
  refine XE.of (pe_slice sl_tupA pe_wp q1 q2) fun G σ H F k Q q => ha G σ H F k _ fun x G1 H1 F1 s1 k1 p1 => e1 G1 σ H1 F1 k1 _ fun G2 H2 F2 s2 k2 => e2 G2 σ H2 F2 k2 _ fun G3 H3 F3 s3 k3 => ?_
  obtain ⟨m, xs, rfl, g, hA⟩ := p1
  have le := s2.le.tr s3.le
  refine ⟨m, xs, rfl, fit_t k3 (le _ _ g), fun w => q _ G3 H3 F3 (s1.tr (s2.tr s3)) k3 ⟨m, xs, rfl, le _ _ g, ?_⟩, fun _ p hp => q _ _ _ F3 ((s1.tr (s2.tr s3)).tr (.new' hp)) (k3.new hp) ⟨p, _, rfl, Gh.add_at, allA_cut (hA.up (le.tr Gh.le_add)) _ _⟩⟩
  have e := hA.length
  have c : cutA Ps l h = Ps := by
    unfold cutA
    rw [e] at w
    rw [w.1, w.2]
    simp
  rw [c]
  exact hA.up le
theorem atI_of {G : Gh} {vs : List V} {Ps : List As} {i : Int} {j : Nat} {P : As} (h : AllA G vs Ps) (hj : ixN Ps.length i = some j) (hP : Ps[j]? = some P) : ∃ v, atI vs i = some v ∧ P.p G v := by
  obtain ⟨v, e, p⟩ := h.get hP
  refine ⟨v, ?_, p⟩
  unfold atI
  rw [h.length, hj]
  exact e
theorem ixN_nat {n : Nat} {i : Int} (h0 : 0 ≤ i) (h1 : i < n) : ixN n i = some i.toNat := by
  unfold ixN
  rw [if_pos h0, if_pos h1]
theorem x_ixL {i : Int} {j : Nat} {P : As} (ha : XE X Γ a (aL Ps)) (hb : XE X Γ b (aI i)) (hj : ixN Ps.length i = some j) (hP : Ps[j]? = some P) (hs : PlainIx b := by exact fun _ _ => rfl) : XE X Γ (.Subscript a b pos) P :=
  XE.of (pe_ix ix_list pe_wp pe_wp hs) fun G σ H F k Q q => ha G σ H F k _ fun x G1 H1 F1 s1 k1 p1 => hb G1 σ H1 F1 k1 _ fun y G2 H2 F2 s2 k2 p2 => by
    obtain ⟨l, xs, rfl, g1, h1⟩ := p1
    obtain ⟨v, e, hv⟩ := atI_of (h1.up s2.le) hj hP
    exact ⟨l, xs, i, v, rfl, p2, fit_l k2 (s2.le _ _ g1), e, q v G2 H2 F2 (s1.tr s2) k2 hv⟩
theorem x_ixT {i : Int} {j : Nat} {P : As} (ha : XE X Γ a (aT Ps)) (hb : XE X Γ b (aI i)) (hj : ixN Ps.length i = some j) (hP : Ps[j]? = some P) (hs : PlainIx b := by exact fun _ _ => rfl) : XE X Γ (.Subscript a b pos) P :=
  XE.of (pe_ix ix_tup pe_wp pe_wp hs) fun G σ H F k Q q => ha G σ H F k _ fun x G1 H1 F1 s1 k1 p1 => hb G1 σ H1 F1 k1 _ fun y G2 H2 F2 s2 k2 p2 => by
    obtain ⟨l, xs, rfl, g1, h1⟩ := p1
    obtain ⟨v, e, hv⟩ := atI_of (h1.up s2.le) hj hP
    exact ⟨l, xs, i, v, rfl, p2, fit_t k2 (s2.le _ _ g1), e, q v G2 H2 F2 (s1.tr s2) k2 hv⟩
/-- built-ins over lists -/
theorem bl_of {G : Gh} : ∀ {vs : List V} {bs : List Bool}, AllA G vs (bs.map aB) → vs = bs.map V.bl
  | _, [], .nil => rfl
  | _, n :: ns, .cons h t => by rw [bl_of t]; rw [show _ = V.bl n from h]; rfl
variable {p : Pos}
theorem x_sum {ns : List Int} (hc : X.calm = true) (hm : X.mg "sum" = none) (ha : XE X Γ e (aLI ns)) (hg : Gl X "sum" := by rfl) (he : starEach [e] X.env = [(false, eval e X.env)] := by rfl) : XE X Γ (.Call (.Name "sum" p) [e] [] pos) (aI ns.sum) :=
  x_callB (cr_sum hc) hm (by decide +kernel) (xa_cons ha xa_nil he) (fun G σ H F vs k h Q q => by
    cases h with
    | cons h t =>
      cases t
      obtain ⟨a, ws, e, g, hh⟩ := h
      subst e
      have e2 := allI hh
      subst e2
      exact ⟨a, ns, rfl, fit_l k g, q _ G H F .rfl' k rfl⟩) hg (by decide) (by decide) he
theorem x_all {bs : List Bool} (hc : X.calm = true) (hm : X.mg "all" = none) (ha : XE X Γ e (aL (bs.map aB))) (hg : Gl X "all" := by rfl) (he : starEach [e] X.env = [(false, eval e X.env)] := by rfl) : XE X Γ (.Call (.Name "all" p) [e] [] pos) (aB (bs.all id)) :=
  x_callB (cr_all hc) hm (by decide +kernel) (xa_cons ha xa_nil he) (fun G σ H F vs k h Q q => by
    cases h with
    | cons h t =>
      cases t
      obtain ⟨a, ws, e, g, hh⟩ := h
      subst e
      have e2 := bl_of hh
      subst e2
      exact ⟨a, bs, rfl, fit_l k g, q _ G H F .rfl' k rfl⟩) hg (by decide) (by decide) he
theorem x_any {bs : List Bool} (hc : X.calm = true) (hm : X.mg "any" = none) (ha : XE X Γ e (aL (bs.map aB))) (hg : Gl X "any" := by rfl) (he : starEach [e] X.env = [(false, eval e X.env)] := by rfl) : XE X Γ (.Call (.Name "any" p) [e] [] pos) (aB (bs.any id)) :=
  x_callB (cr_any hc) hm (by decide +kernel) (xa_cons ha xa_nil he) (fun G σ H F vs k h Q q => by
    cases h with
    | cons h t =>
      cases t
      obtain ⟨a, ws, e, g, hh⟩ := h
      subst e
      have e2 := bl_of hh
      subst e2
      exact ⟨a, bs, rfl, fit_l k g, q _ G H F .rfl' k rfl⟩) hg (by decide) (by decide) he
theorem x_maxL {ns : List Int} {m : Int} (hc : X.calm = true) (hm : X.mg "max" = none) (ha : XE X Γ e (aLI ns)) (h1 : m ∈ ns) (h2 : ∀ y, y ∈ ns → y ≤ m) (hg : Gl X "max" := by rfl) (he : starEach [e] X.env = [(false, eval e X.env)] := by rfl) : XE X Γ (.Call (.Name "max" p) [e] [] pos) (aI m) :=
  x_callB (cr_max hc) hm (by decide +kernel) (xa_cons ha xa_nil he) (fun G σ H F vs k h Q q => by
    cases h with
    | cons h t =>
      cases t
      obtain ⟨a, ws, e, g, hh⟩ := h
      subst e
      have e2 := allI hh
      subst e2
      refine ⟨a, ns, rfl, fit_l k g, List.length_pos_of_mem h1, fun m' g1 g2 => ?_⟩
      have : m' = m := Int.le_antisymm (h2 m' g1) (g2 m h1)
      subst this
      exact q _ G H F .rfl' k rfl) hg (by decide) (by decide) he
theorem x_max2 {i j : Int} (hc : X.calm = true) (hm : X.mg "max" = none) (ha : XE X Γ a (aI i)) (hb : XE X Γ b (aI j)) (hg : Gl X "max" := by rfl) (he : starEach [a, b] X.env = [(false, eval a X.env), (false, eval b X.env)] := by rfl) (he2 : starEach [b] X.env = [(false, eval b X.env)] := by rfl) : XE X Γ (.Call (.Name "max" p) [a, b] [] pos) (aI (max i j)) :=
  x_callB (call_max2 hc) hm (by decide +kernel) (xa_cons ha (xa_cons hb xa_nil he2) (by rw [he, he2])) (fun G σ H F vs k h Q q => by
    cases h with
    | cons h t =>
      cases t with
      | cons h2 t =>
        cases t
        exact ⟨i, j, by rw [show _ = V.int i from h, show _ = V.int j from h2], q _ G H F .rfl' k (by show V.int _ = V.int _; congr 1; omega)⟩) hg (by decide) (by decide) (by rw [he, he2]) (by rw [he2]; rfl)
theorem x_min2 {i j : Int} (hc : X.calm = true) (hm : X.mg "min" = none) (ha : XE X Γ a (aI i)) (hb : XE X Γ b (aI j)) (hg : Gl X "min" := by rfl) (he : starEach [a, b] X.env = [(false, eval a X.env), (false, eval b X.env)] := by rfl) (he2 : starEach [b] X.env = [(false, eval b X.env)] := by rfl) : XE X Γ (.Call (.Name "min" p) [a, b] [] pos) (aI (min i j)) :=
  x_callB (call_min2 hc) hm (by decide +kernel) (xa_cons ha (xa_cons hb xa_nil he2) (by rw [he, he2])) (fun G σ H F vs k h Q q => by
    cases h with
    | cons h t =>
      cases t with
      | cons h2 t =>
        cases t
        exact ⟨i, j, by rw [show _ = V.int i from h, show _ = V.int j from h2], q _ G H F .rfl' k (by show V.int _ = V.int _; congr 1; omega)⟩) hg (by decide) (by decide) (by rw [he, he2]) (by rw [he2]; rfl)
theorem x_abs {i : Int} (hm : X.mg "abs" = none) (ha : XE X Γ a (aI i)) (hg : Gl X "abs" := by rfl) (he : starEach [a] X.env = [(false, eval a X.env)] := by rfl) : XE X Γ (.Call (.Name "abs" p) [a] [] pos) (aI (i.natAbs : Int)) :=
  x_callB call_abs hm (by decide +kernel) (xa_cons ha xa_nil he) (fun G σ H F vs k h Q q => by
    cases h with
    | cons h t =>
      cases t
      exact ⟨i, by rw [show _ = V.int i from h], q _ G H F .rfl' k (by show V.int _ = V.int _; congr 1; split <;> omega)⟩) hg (by decide) (by decide) he
theorem x_intI {i : Int} (hm : X.mg "int" = none) (ha : XE X Γ a (aI i)) (hg : Gl X "int" := by rfl) (he : starEach [a] X.env = [(false, eval a X.env)] := by rfl) : XE X Γ (.Call (.Name "int" p) [a] [] pos) (aI i) :=
  x_callTy call_int1 hm (by decide +kernel) (xa_cons ha xa_nil he) (fun G σ H F vs k h Q q => by
    cases h with
    | cons h t =>
      cases t
      exact .inl ⟨i, by rw [show _ = V.int i from h], q _ G H F .rfl' k rfl⟩) hg (by decide) (by decide) he
theorem x_intB {i : Bool} (hm : X.mg "int" = none) (ha : XE X Γ a (aB i)) (hg : Gl X "int" := by rfl) (he : starEach [a] X.env = [(false, eval a X.env)] := by rfl) : XE X Γ (.Call (.Name "int" p) [a] [] pos) (aI (if i then 1 else 0)) :=
  x_callTy call_int1 hm (by decide +kernel) (xa_cons ha xa_nil he) (fun G σ H F vs k h Q q => by
    cases h with
    | cons h t =>
      cases t
      exact .inr ⟨i, by rw [show _ = V.bl i from h], q _ G H F .rfl' k rfl⟩) hg (by decide) (by decide) he
theorem xf_listL (hm : X.mg "list" = none) (ha : XE X Γ a (aL Ps)) (hg : Gl X "list" := by rfl) (he : starEach [a] X.env = [(false, eval a X.env)] := by rfl) : XF X Γ (.Call (.Name "list" p) [a] [] pos) Ps :=
  XF.of (pe_callTy call_list_of hg hm (by decide +kernel) pa_wp (by decide) (by decide) he) fun G σ H F k Q q => xa_cons ha xa_nil he G σ H F k _ fun vs G1 H1 F1 s1 k1 p1 => by
    cases p1 with
    | cons h t =>
      cases t
      obtain ⟨m, ws, rfl, g, hh⟩ := h
      exact ⟨m, ws, rfl, .inl (fit_l k1 g), fun l hl => lay_l s1 k1 hl hh q⟩
theorem xf_listT (hm : X.mg "list" = none) (ha : XE X Γ a (aT Ps)) (hg : Gl X "list" := by rfl) (he : starEach [a] X.env = [(false, eval a X.env)] := by rfl) : XF X Γ (.Call (.Name "list" p) [a] [] pos) Ps :=
  XF.of (pe_callTy call_list_of hg hm (by decide +kernel) pa_wp (by decide) (by decide) he) fun G σ H F k Q q => xa_cons ha xa_nil he G σ H F k _ fun vs G1 H1 F1 s1 k1 p1 => by
    cases p1 with
    | cons h t =>
      cases t
      obtain ⟨m, ws, rfl, g, hh⟩ := h
      exact ⟨m, ws, rfl, .inr (fit_t k1 g), fun l hl => lay_l s1 k1 hl hh q⟩
theorem x_tupL {p2 : Pos} (hm : X.mg "tuple" = none) (ha : XE X Γ a (aL Ps)) (hg : Gl X "tuple" := by rfl) (he : starEach [a] X.env = [(false, eval a X.env)] := by rfl) : XE X Γ (.Call (.Name "tuple" p) [a] [] pos) (aT Ps) :=
  x_callTy call_tuple_of hm (by decide +kernel) (xa_cons ha xa_nil he) (fun G σ H F vs k h Q q => by
    cases h with
    | cons h t =>
      cases t
      obtain ⟨m, ws, rfl, g, hh⟩ := h
      exact ⟨m, ws, rfl, .inl ⟨fit_l k g, fun l hl => q _ _ _ F (.new' hl) (k.new hl) ⟨l, ws, rfl, Gh.add_at, hh.up Gh.le_add⟩⟩⟩) hg (by decide) (by decide) he
theorem x_tupT {p2 : Pos} (hm : X.mg "tuple" = none) (ha : XE X Γ a (aT Ps)) (hg : Gl X "tuple" := by rfl) (he : starEach [a] X.env = [(false, eval a X.env)] := by rfl) : XE X Γ (.Call (.Name "tuple" p) [a] [] pos) (aT Ps) :=
  x_callTy call_tuple_of hm (by decide +kernel) (xa_cons ha xa_nil he) (fun G σ H F vs k h Q q => by
    cases h with
    | cons h t =>
      cases t
      obtain ⟨m, ws, rfl, g, hh⟩ := h
      exact ⟨m, ws, rfl, .inr ⟨fit_t k g, q _ G H F .rfl' k ⟨m, ws, rfl, g, hh⟩⟩⟩) hg (by decide) (by decide) he
end
end NS
namespace NS
open PySem L2 PySem.Spec
/-! ### comprehensions -/
theorem wipe_get (σ : L2.St) : ∀ (vs : List Nat) (i : Nat), (wipe σ vs)[i]? = if i ∈ vs ∧ i < σ.length then some none else σ[i]?
  | [], i => by simp [wipe]
  | v :: vs, i => by
    unfold wipe
    by_cases h : v = i
    · subst h
      by_cases hl : v < σ.length
      · rw [List.getElem?_set_self (by rw [wipe_length]; exact hl), if_pos ⟨List.mem_cons_self, hl⟩]
      · rw [if_neg (fun z => hl z.2), List.getElem?_eq_none (by rw [List.length_set, wipe_length]; omega), List.getElem?_eq_none (by omega)]
    · rw [List.getElem?_set_ne h, wipe_get σ vs i]
      simp [List.mem_cons, Ne.symm h]
theorem wipe_set {σ : L2.St} {vs : List Nat} {j : Nat} {x : Option V} (hj : j ∈ vs) : wipe ((wipe σ vs).set j x) vs = wipe σ vs := by
  apply List.ext_getElem?
  intro i
  rw [wipe_get, wipe_get, List.length_set, wipe_length]
  by_cases h : i ∈ vs ∧ i < σ.length
  · rw [if_pos h, if_pos h]
  · rw [if_neg h, if_neg h]
    by_cases e : j = i
    · subst e
      have : ¬ j < σ.length := fun z => h ⟨hj, z⟩
      rw [List.getElem?_eq_none (by rw [List.length_set, wipe_length]; omega), List.getElem?_eq_none (by omega)]
    · rw [List.getElem?_set_ne e, wipe_get, if_neg h]
/-- slots behind a block are what they were -/
theorem Sl.back : ∀ {Γ : List En} {G G' : Gh} {σ : L2.St} {H H' : Hp} {F F' : Addr → Prop} {i : Nat}, Sl Γ G σ H F → (∀ O, Γ[i]? ≠ some (.mu O)) → Sl (Γ.set i .no) G' (σ.set i none) H' F' → G.le G' → Sl Γ G' σ H' F'
  | [], _, _, _, _, _, _, _, _, h, _, _, _ => h
  | .no :: Γ, _, _, _, _, _, _, _, 0, ⟨o, r, e, h⟩, _, ⟨o2, r2, e2, h2⟩, _ => by
    subst e
    have e3 : r = r2 := by have := e2; simp at this; exact this.2
    subst e3
    exact ⟨o, r, rfl, h2⟩
  | .im A :: Γ, _, _, _, _, _, _, _, 0, ⟨o, r, e, ha, h⟩, _, ⟨o2, r2, e2, h2⟩, l => by
    subst e
    have e3 : r = r2 := by have := e2; simp at this; exact this.2
    subst e3
    exact ⟨o, r, rfl, A.up l ha, h2⟩
  | .mu O :: Γ, _, _, _, _, _, _, _, 0, _, n, _, _ => absurd rfl (n O)
  | .no :: Γ, _, _, _, _, _, _, _, i + 1, ⟨o, r, e, h⟩, n, ⟨o2, r2, e2, h2⟩, l => by
    subst e
    have e3 : o = o2 ∧ r.set i none = r2 := by have := e2; simpa using this
    obtain ⟨rfl, rfl⟩ := e3
    exact ⟨o, r, rfl, Sl.back h (fun O z => n O (by simpa using z)) h2 l⟩
  | .im A :: Γ, _, _, _, _, _, _, _, i + 1, ⟨o, r, e, ha, h⟩, n, ⟨o2, r2, e2, ha2, h2⟩, l => by
    subst e
    have e3 : o = o2 ∧ r.set i none = r2 := by have := e2; simpa using this
    obtain ⟨rfl, rfl⟩ := e3
    exact ⟨o, r, rfl, ha2, Sl.back h (fun O z => n O (by simpa using z)) h2 l⟩
  | .mu O :: Γ, _, _, _, _, _, _, _, i + 1, ⟨o, r, F1, F2, e, ha, h, hd, hs⟩, n, ⟨o2, r2, F1', F2', e2, ha2, h2, hd2, hs2⟩, l => by
    subst e
    have e3 : o = o2 ∧ r.set i none = r2 := by have := e2; simpa using this
    obtain ⟨rfl, rfl⟩ := e3
    exact ⟨o, r, F1', F2', rfl, ha2, Sl.back h (fun O z => n O (by simpa using z)) h2 l, hd2, hs2⟩
theorem nomu_wipe {Γ : List En} {i : Nat} (n : ∀ O, Γ[i]? ≠ some (.mu O)) : ∀ (vs : List Nat) (O : Ob), (wipeΓ Γ vs)[i]? ≠ some (.mu O)
  | [], O => n O
  | v :: vs, O => by
    unfold wipeΓ
    by_cases h : v = i
    · subst h
      by_cases hl : v < (wipeΓ Γ vs).length
      · rw [List.getElem?_set_self hl]; intro z; cases z
      · rw [List.getElem?_eq_none (by rw [List.length_set]; omega)]; intro z; cases z
    · rw [List.getElem?_set_ne h]
      exact nomu_wipe n vs O
theorem Sl.backs {Γ : List En} {G G' : Gh} {σ : L2.St} {H H' : Hp} {F F' : Addr → Prop} (k : OK Γ G σ H F) (l : G.le G') : ∀ {vs : List Nat}, (∀ i ∈ vs, ∀ O, Γ[i]? ≠ some (.mu O)) → Sl (wipeΓ Γ vs) G' (wipe σ vs) H' F' → Sl Γ G' σ H' F'
  | [], _, h => h
  | v :: vs, n, h => Sl.backs k l (vs := vs) (fun i m => n i (List.mem_cons_of_mem _ m)) (Sl.back (k.wipe vs).sl (nomu_wipe (n v List.mem_cons_self) vs) h l)
def isMu : Option En → Bool
  | some (.mu _) => true
  | _ => false
theorem nomu {Γ : List En} {vs : List Nat} (h : (vs.all fun i => !isMu Γ[i]?) = true) : ∀ i ∈ vs, ∀ O, Γ[i]? ≠ some (.mu O) := fun i hi O e => by
  have q := List.all_eq_true.mp h i hi
  rw [e] at q
  cases q
def ctxE (X : Cx) (scope : Scope) (e : Expr) : TE := fun σ H Q => ∀ (s : Shared) (H0 : Hp) (C : Addr) (cl : List (Str × Addr)) (fp : List Addr), wpE (X.blk s H0 scope (compEnvC scope cl C X.env) fp) e σ H Q
def ctxT (X : Cx) (scope : Scope) (e : Expr) : TT := fun σ H Q => ∀ (s : Shared) (H0 : Hp) (C : Addr) (cl : List (Str × Addr)) (fp : List Addr), wpT (X.blk s H0 scope (compEnvC scope cl C X.env) fp) e σ H Q
/-- in every block -/
abbrev BE (X : Cx) (scope : Scope) (Γ : List En) (e : Expr) (P : As) : Prop := ∀ (s : Shared) (H0 : Hp) (C : Addr) (cl : List (Str × Addr)) (fp : List Addr), XE (X.blk s H0 scope (compEnvC scope cl C X.env) fp) Γ e P
abbrev BT (X : Cx) (scope : Scope) (Γ : List En) (e : Expr) (b : Bool) : Prop := ∀ (s : Shared) (H0 : Hp) (C : Addr) (cl : List (Str × Addr)) (fp : List Addr), XT (X.blk s H0 scope (compEnvC scope cl C X.env) fp) Γ e b
theorem be_ev {X : Cx} {scope : Scope} {Γ : List En} {e : Expr} {P : As} (h : BE X scope Γ e P) : EV (ctxE X scope e) Γ P := fun G σ H F k Q q => fun s H0 C cl fp => h s H0 C cl fp G σ H F k Q q
theorem bt_et {X : Cx} {scope : Scope} {Γ : List En} {e : Expr} {b : Bool} (h : BT X scope Γ e b) : ET (ctxT X scope e) Γ b := fun G σ H F k Q q => fun s H0 C cl fp => h s H0 C cl fp G σ H F k Q q
/-- a turn of a comprehension with one name -/
structure LcS (Γ : List En) (vs : List Nat) (σ : L2.St) (G : Gh) (H1 : Hp) (F : Addr → Prop) (D : Addr) (Ps : List As) (H : Hp) : Prop where
  ex : ∃ G' F' xs, Stp G H1 F G' H F' ∧ OK (wipeΓ Γ vs) G' (wipe σ vs) H F' ∧ H D = some (.lst xs) ∧ (∀ u, ¬ G' D u) ∧ ¬ F' D ∧ AllA G' xs Ps
theorem lcs_start {Γ : List En} {vs : List Nat} {σ : L2.St} {G : Gh} {H1 : Hp} {F : Addr → Prop} {D : Addr} (k : OK Γ G σ H1 F) (hD : H1 D = none) : LcS Γ vs σ G H1 F D [] (upd H1 D (.lst [])) := by
  have k2 := k.wipe vs
  obtain ⟨n1, n2⟩ := k.off' hD
  exact ⟨G, F, [], .same (same_new hD), k2.same (same_new hD), upd_same, n1, n2, .nil⟩
theorem lcs_end {Γ : List En} {vs : List Nat} {σ : L2.St} {G : Gh} {H1 H : Hp} {F : Addr → Prop} {D : Addr} {Ps : List As} {G0 : Gh} {H0 : Hp} {F0 : Addr → Prop} {Q : VK} (s0 : Stp G0 H0 F0 G H1 F) (k : OK Γ G σ H1 F) (hn : ∀ i ∈ vs, ∀ O, Γ[i]? ≠ some (.mu O)) (hD : H1 D = none) (h : LcS Γ vs σ G H1 F D Ps H)
    (q : ∀ p vs G' H' F', Stp G0 H0 F0 G' H' F' → OK Γ G' σ H' F' → H0 p = none → H' p = some (.lst vs) → (∀ u, ¬ G' p u) → ¬ F' p → AllA G' vs Ps → Q (.ref p) H') : Q (.ref D) H := by
  obtain ⟨G', F', xs, s, k', hl, n1, n2, ha⟩ := h.ex
  exact q D xs G' H F' (s0.tr s) ⟨k'.sl.backs k s.le hn, k'.fit, k'.off, k'.th⟩ (Classical.byContradiction fun n => s0.live D n hD) hl n1 n2 ha
/-! ### targets -/
def wpG (X : Cx) (tg : Expr) : TG := fun v σ H Q => ∀ pins s u, Inv X pins σ H s → RelV v u → wpAny (model X.prog X.w) X.A (assign tg X.env u) (fun _ s' => ∃ σ' H', Inv X pins σ' H' s' ∧ Q σ' H') X.xe s
theorem pg_wp {X : Cx} {tg : Expr} : PG X tg (wpG X tg) := ⟨fun pins s σ H v u Q I r h => h pins s u I r⟩
/-- storing a value of A turns Γ into Γ'; only the slots js are stored -/
def EG (g : TG) (Γ : List En) (A : As) (Γ' : List En) (js : List Nat) : Prop := ∀ (G : Gh) (σ : L2.St) (H : Hp) (F : Addr → Prop) (v : V), OK Γ G σ H F → A.p G v → ∀ Q : L2.St → Hp → Prop,
  (∀ G' σ' H' F', Stp G H F G' H' F' → OK Γ' G' σ' H' F' → σ'.length = σ.length → (∀ i, i ∉ js → σ'[i]? = σ[i]?) → Q σ' H') → g v σ H Q
abbrev XG (X : Cx) (tg : Expr) (Γ : List En) (A : As) (Γ' : List En) (js : List Nat) : Prop := EG (wpG X tg) Γ A Γ' js
theorem XG.of {X : Cx} {tg : Expr} {Γ Γ' : List En} {A : As} {js : List Nat} {g : TG} (h : PG X tg g) (ev : EG g Γ A Γ' js) : XG X tg Γ A Γ' js := fun G σ H F v k p Q q => fun pins s u I r => h.run pins s σ H v u Q I r (ev G σ H F v k p Q q)
theorem eg_name {Γ : List En} {A : As} {j : Nat} : EG (gName j) Γ A (Γ.set j (.im A)) [j] := fun G σ H F v k p Q q => q G _ H F .rfl' (k.set j p) (by rw [List.length_set]) fun i hi => List.getElem?_set_ne (fun e => hi (by simp [e]))
section
variable {X : Cx} {Γ Γ1 Γ2 Γ3 : List En} {A B C : As} {pos p1 p2 p3 : Pos} {a b c : Expr} {js ks ls : List Nat}
theorem xg_name (j : Nat) {x : Str} (hN : X.N.Nodup) (hi : X.N[j]? = some x := by rfl) (hx : Loc X.env.scope x := by first | exact Or.inl rfl | exact Or.inr rfl) (hf : X.fn x = true ∨ X.env.scope.names.lookup x = some .local := by first | exact .inl rfl | exact .inr rfl | assumption) : XG X (.Name x pos) Γ A (Γ.set j (.im A)) [j] :=
  XG.of (pg_name hN hi hx hf) eg_name
theorem xg_2 {k : Nat} (hc : X.calm = true) (h1 : XG X a Γ A Γ1 js) (h2 : XG X b Γ1 B Γ2 ks) (hn : (assignEach [a, b] X.env).length = 2 := by rfl) (hst : (assignEach [a, b] X.env).findIdx? (·.1) = none := by rfl)
    (hs1 : (assignEach [a, b] X.env).map (·.2) = assign a X.env :: (assignEach [b] X.env).map (·.2) := by rfl) (hs2 : (assignEach [b] X.env).map (·.2) = assign b X.env :: (assignEach [] X.env).map (·.2) := by rfl) : XG X (.Tuple [a, b] k pos) Γ (aT [A, B]) Γ2 (js ++ ks) :=
  XG.of (pg_tup (n := 2) hc (pgs_cons pg_wp (pgs_cons pg_wp pgs_nil hs2) hs1) hn hst) fun G σ H F v o p Q q => by
    obtain ⟨m, vs, rfl, g, hA⟩ := p
    cases hA with
    | cons q1 t =>
      cases t with
      | cons q2 t =>
        cases t
        refine ⟨m, _, rfl, fit_t o g, rfl, _, _, rfl, h1 G σ H F _ o q1 _ fun G1 σ1 H1 F1 s1 k1 l1 e1 => ⟨_, _, rfl, h2 G1 σ1 H1 F1 _ k1 (B.up s1.le q2) _ fun G2 σ2 H2 F2 s2 k2 l2 e2 => ⟨rfl, q G2 σ2 H2 F2 (s1.tr s2) k2 (l2.trans l1) fun i hi => ?_⟩⟩⟩
        rw [List.mem_append, not_or] at hi
        rw [e2 i hi.2, e1 i hi.1]
theorem xg_3 {k : Nat} (hc : X.calm = true) (h1 : XG X a Γ A Γ1 js) (h2 : XG X b Γ1 B Γ2 ks) (h3 : XG X c Γ2 C Γ3 ls) (hn : (assignEach [a, b, c] X.env).length = 3 := by rfl) (hst : (assignEach [a, b, c] X.env).findIdx? (·.1) = none := by rfl)
    (hs1 : (assignEach [a, b, c] X.env).map (·.2) = assign a X.env :: (assignEach [b, c] X.env).map (·.2) := by rfl) (hs2 : (assignEach [b, c] X.env).map (·.2) = assign b X.env :: (assignEach [c] X.env).map (·.2) := by rfl) (hs3 : (assignEach [c] X.env).map (·.2) = assign c X.env :: (assignEach [] X.env).map (·.2) := by rfl) : XG X (.Tuple [a, b, c] k pos) Γ (aT [A, B, C]) Γ3 (js ++ (ks ++ ls)) :=
  XG.of (pg_tup (n := 3) hc (pgs_cons pg_wp (pgs_cons pg_wp (pgs_cons pg_wp pgs_nil hs3) hs2) hs1) hn hst) fun G σ H F v o p Q q => by
    obtain ⟨m, vs, rfl, g, hA⟩ := p
    cases hA with
    | cons q1 t =>
      cases t with
      | cons q2 t =>
        cases t with
        | cons q3 t =>
          cases t
          refine ⟨m, _, rfl, fit_t o g, rfl, _, _, rfl, h1 G σ H F _ o q1 _ fun G1 σ1 H1 F1 s1 k1 l1 e1 => ⟨_, _, rfl, h2 G1 σ1 H1 F1 _ k1 (B.up s1.le q2) _ fun G2 σ2 H2 F2 s2 k2 l2 e2 => ⟨_, _, rfl, h3 G2 σ2 H2 F2 _ k2 (C.up (s1.le.tr s2.le) q3) _ fun G3 σ3 H3 F3 s3 k3 l3 e3 => ⟨rfl, q G3 σ3 H3 F3 (s1.tr (s2.tr s3)) k3 (l3.trans (l2.trans l1)) fun i hi => ?_⟩⟩⟩⟩
          rw [List.mem_append, List.mem_append, not_or, not_or] at hi
          rw [e3 i hi.2.2, e2 i hi.2.1, e1 i hi.1]
end
def ctxG (X : Cx) (scope : Scope) (tg : Expr) : TG := fun v σ H Q => ∀ (s : Shared) (H0 : Hp) (C : Addr) (cl : List (Str × Addr)) (fp : List Addr), wpG (X.blk s H0 scope (compEnvC scope cl C X.env) fp) tg v σ H Q
abbrev BG (X : Cx) (scope : Scope) (tg : Expr) (Γ : List En) (A : As) (Γ' : List En) (js : List Nat) : Prop := ∀ (s : Shared) (H0 : Hp) (C : Addr) (cl : List (Str × Addr)) (fp : List Addr), XG (X.blk s H0 scope (compEnvC scope cl C X.env) fp) tg Γ A Γ' js
theorem bg_eg {X : Cx} {scope : Scope} {tg : Expr} {Γ Γ' : List En} {A : As} {js : List Nat} (h : BG X scope tg Γ A Γ' js) : EG (ctxG X scope tg) Γ A Γ' js := fun G σ H F v k p Q q => fun s H0 C cl fp => h s H0 C cl fp G σ H F v k p Q q
theorem wipe_same {σ σ' : L2.St} {vs js : List Nat} (hj : ∀ i ∈ js, i ∈ vs) (hl : σ'.length = σ.length) (he : ∀ i, i ∉ js → σ'[i]? = (wipe σ vs)[i]?) : wipe σ' vs = wipe σ vs := by
  apply List.ext_getElem?
  intro i
  rw [wipe_get, wipe_get, hl]
  by_cases h : i ∈ vs ∧ i < σ.length
  · rw [if_pos h, if_pos h]
  · rw [if_neg h, if_neg h]
    by_cases hi : i ∈ js
    · have nl : ¬ i < σ.length := fun z => h ⟨hj i hi, z⟩
      rw [List.getElem?_eq_none (by omega), List.getElem?_eq_none (by omega)]
    · rw [he i hi, wipe_get, if_neg h]
theorem lcs_turn {Γ Γ' : List En} {vs js : List Nat} {σ : L2.St} {G : Gh} {H1 H : Hp} {F : Addr → Prop} {D : Addr} {Ps : List As} {A P : As} {v : V} {g : TG} {tt : TT} {te : TE} {b : Bool} {Nx : Hp → Prop} (hD : H1 D = none) (hj : ∀ i ∈ js, i ∈ vs) (hΓ : wipeΓ Γ' vs = wipeΓ Γ vs) {G' : Gh} {F' : Addr → Prop} {xs : List V} (s : Stp G H1 F G' H F') (k' : OK (wipeΓ Γ vs) G' (wipe σ vs) H F') (hd : H D = some (.lst xs)) (n1 : ∀ u, ¬ G' D u) (n2 : ¬ F' D) (ha : AllA G' xs Ps) (hv : A.p G' v) (hl : Ps.length < sizeLine)
    (hg : EG g (wipeΓ Γ vs) A Γ' js) (ht : ET tt Γ' b) (he : b = true → EV te Γ' P) (nx : ∀ H', LcS Γ vs σ G H1 F D (if b = true then Ps ++ [P] else Ps) H' → Nx H') :
    g v (wipe σ vs) H fun σ2 H2 => wipe σ2 vs = wipe σ vs ∧ tt σ2 H2 fun c H3 => if c = true then te σ2 H3 fun y H4 => ∃ acc, H4 D = some (.lst acc) ∧ acc.length < sizeLine ∧ Nx (upd H4 D (.lst (acc ++ [y]))) else Nx H3 := by
  refine hg G' _ H F' v k' hv _ fun Gg σg Hg Fg sg kg lg eg => ?_
  have wσ : wipe σg vs = wipe σ vs := wipe_same hj (by rw [lg, wipe_length]) eg
  have back : ∀ {G2 : Gh} {H2 : Hp} {F2 : Addr → Prop}, OK Γ' G2 σg H2 F2 → OK (wipeΓ Γ vs) G2 (wipe σ vs) H2 F2 := fun {G2 H2 F2} k2 => by
    have w := k2.wipe vs
    rw [hΓ, wσ] at w
    exact w
  have stay : ∀ {G2 : Gh} {H2 : Hp} {F2 : Addr → Prop}, Stp G' H F' G2 H2 F2 → H2 D = some (.lst xs) ∧ (∀ u, ¬ G2 D u) ∧ ¬ F2 D := fun {G2 H2 F2} s2 => by
    refine ⟨s2.keep _ _ n2 hd, fun u g => ?_, fun f => ?_⟩
    · rcases s2.new _ _ g with g | g | g
      · exact n1 u g
      · rw [hd] at g; cases g
      · exact n2 g
    · rcases s2.grow _ f with f | f
      · exact n2 f
      · rw [hd] at f; cases f
  refine ⟨wσ, ht Gg _ Hg Fg kg _ fun G2 H2 F2 s2 k2 => ?_⟩
  have s02 := sg.tr s2
  cases b with
  | false =>
    obtain ⟨d1, d2, d3⟩ := stay s02
    rw [if_neg Bool.false_ne_true]
    exact nx H2 ⟨G2, F2, xs, s.tr s02, back k2, d1, d2, d3, ha.up s02.le⟩
  | true =>
    rw [if_pos rfl]
    refine he rfl G2 _ H2 F2 k2 _ fun y G3 H3 F3 s3 k3 p3 => ?_
    have s23 := s02.tr s3
    obtain ⟨d1, d2, d3⟩ := stay s23
    refine ⟨xs, d1, by rw [ha.length]; exact hl, nx _ ⟨G3, F3, xs ++ [y], ?_, ?_, upd_same, d2, d3, ?_⟩⟩
    · have s' := s.tr s23
      refine ⟨s'.le, fun a u nf e => ?_, s'.new, s'.grow, fun a n => ?_⟩
      · rw [upd_ne (ne_of_none e hD)]; exact s'.keep a u nf e
      · by_cases e : a = D
        · subst e; exact absurd hD n
        · rw [upd_ne e]; exact s'.live a n
    · have k4 := back k3
      refine ⟨k4.sl.mono .rfl' (fun a u f e => ?_) (fun _ f => f), fun a u g => ?_, k4.off, fun a f => ?_⟩
      · rw [upd_ne (fun z : a = D => d3 (z ▸ f))]; exact e
      · have ne : a ≠ D := fun z : a = D => d2 u (z ▸ g)
        rcases k4.fit a u g with e | ⟨m, o, e⟩
        · exact .inl (by rw [upd_ne ne]; exact e)
        · exact .inr ⟨m, o, by rw [upd_ne ne]; exact e⟩
      · rw [upd_ne (fun z : a = D => d3 (z ▸ f))]; exact k4.th a f
    · rw [if_pos rfl]
      exact (ha.up s23.le).append (.cons p3 .nil)
theorem pts_ctx {X : Cx} {scope : Scope} {c : Expr} : ∀ (s : Shared) (H0 : Hp) (C : Addr) (cl : List (Str × Addr)) (fp : List Addr), PTs (X.blk s H0 scope (compEnvC scope cl C X.env) fp) [c] (ctxT X scope c) := fun s H0 C cl fp => pts_one ⟨fun pins s1 σ H Q I h => h s H0 C cl fp pins s1 I⟩
theorem et_yes {Γ : List En} : ET tYes Γ true := fun G σ H F k Q q => q G H F .rfl' k
theorem filt {α : Type} (b : α → Bool) (xs : List α) (s : α → As) {i : Nat} {x : α} (h : xs[i]? = some x) : (if b x = true then ((xs.take i).filter b).map s ++ [s x] else ((xs.take i).filter b).map s) = ((xs.take (i + 1)).filter b).map s := by
  have e : xs.take (i + 1) = xs.take i ++ [x] := by
    rw [List.take_add_one, h]; rfl
  rw [e, List.filter_append]
  cases hb : b x <;> simp [hb]
section
variable {X : Cx} {Γ : List En} {elt iter c tg : Expr} {scope : Scope} {own : List (Str × Nat)} {pos px : Pos} {x : Str} {js : List Nat} {α : Type} {xs : List α} {r s : α → As} {b : α → Bool} {Γ' : α → List En}
abbrev wΓ (Γ : List En) (own : List (Str × Nat)) : List En := wipeΓ Γ (own.map (·.2))
/-- the source of a walk, item by item: what R says of each turn -/
structure XI (X : Cx) (Γ : List En) (tg iter : Expr) (As' : List As) : Prop where
  ex : ∃ wi, PI X tg iter wi ∧ ∀ (G : Gh) (σ : L2.St) (H : Hp) (F : Addr → Prop), OK Γ G σ H F → ∀ R : It → Hp → Prop, (∀ J G' H' F', Stp G H F G' H' F' → OK Γ G' σ H' F' →
    (∀ (G2 : Gh) (H2 : Hp) (F2 : Addr → Prop), Stp G' H' F' G2 H2 F2 → Fit G2 H2 → (∀ i, i < As'.length → J.go i H2) ∧ (∀ i, As'.length ≤ i → J.stop i H2) ∧ ∀ i x H3, J.yld i H2 x H3 → i < As'.length → ∃ P, As'[i]? = some P ∧ ∃ G3, Stp G2 H2 F2 G3 H3 F2 ∧ Same H2 H3 ∧ Fit G3 H3 ∧ (∀ a u, F2 a → ¬ G2 a u → ¬ G3 a u) ∧ P.p G3 x) → R J H') → wi σ H R
theorem xi_list {Ps : List As} (hi : XE X Γ iter (aL Ps)) : XI X Γ tg iter Ps := ⟨_, pi_list pe_wp, fun G σ H F k R q => hi G σ H F k _ fun v G1 H1 F1 s1 k1 p1 => by
  obtain ⟨a, vs, rfl, g, hA⟩ := p1
  refine ⟨a, rfl, ⟨vs, fit_l k1 g⟩, q _ G1 H1 F1 s1 k1 fun G2 H2 F2 s2 f2 => ?_⟩
  have hs : SqL X.K H2 a vs := .inl (f2 _ _ (s2.le _ _ g)).rd
  refine ⟨fun i hi => ?_, fun i hi => ⟨vs, hs, by rw [hA.length]; exact hi⟩, fun i x H3 y hi => ?_⟩
  · have hi' : i < vs.length := by rw [hA.length]; exact hi
    exact ⟨vs, vs[i], hs, List.getElem?_eq_getElem hi'⟩
  · obtain ⟨e, y⟩ := y
    subst e
    obtain ⟨P, e1, e2⟩ := hA.get' (y vs hs)
    exact ⟨P, e1, G2, .rfl', fun _ _ e => e, f2, fun _ _ _ n => n, P.up s2.le e2⟩⟩
theorem xi_tup {Ps : List As} (hi : XE X Γ iter (aT Ps)) : XI X Γ tg iter Ps := ⟨_, pi_tup pe_wp, fun G σ H F k R q => hi G σ H F k _ fun v G1 H1 F1 s1 k1 p1 => by
  obtain ⟨a, vs, rfl, g, hA⟩ := p1
  refine ⟨a, rfl, ⟨vs, fit_t k1 g⟩, q _ G1 H1 F1 s1 k1 fun G2 H2 F2 s2 f2 => ?_⟩
  have hs : SqT X.K H2 a vs := .inl (f2 _ _ (s2.le _ _ g)).rd
  refine ⟨fun i hi => ?_, fun i hi => ⟨vs, hs, by rw [hA.length]; exact hi⟩, fun i x H3 y hi => ?_⟩
  · have hi' : i < vs.length := by rw [hA.length]; exact hi
    exact ⟨vs, vs[i], hs, List.getElem?_eq_getElem hi'⟩
  · obtain ⟨e, y⟩ := y
    subst e
    obtain ⟨P, e1, e2⟩ := hA.get' (y vs hs)
    exact ⟨P, e1, G2, .rfl', fun _ _ e => e, f2, fun _ _ _ n => n, P.up s2.le e2⟩⟩
theorem xi_r1 {a : Expr} {p : Pos} {k : Int} (hm : X.mg "range" = none) (ha : XE X Γ a (aI k)) (h0 : -(2 ^ 62) ≤ k) (h1 : k < 2 ^ 62) (hg : Gl X "range" := by rfl) (hs : starEach [a] X.env = [(false, eval a X.env)] := by rfl) : XI X Γ tg (.Call (.Name "range" p) [a] [] pos) ((List.range k.toNat).map fun (i : Nat) => aI (i : Int)) :=
  ⟨_, pi_range1 hg hm pa_wp hs, fun G σ H F o R q => xa_cons ha xa_nil hs G σ H F o _ fun vs G1 H1 F1 s1 k1 p1 => by
    cases p1 with
    | cons h t =>
      cases t
      refine ⟨_, by rw [show _ = V.int _ from h], h0, h1, q _ G1 H1 F1 s1 k1 fun G2 H2 F2 s2 f2 => ?_⟩
      rw [List.length_map, List.length_range]
      refine ⟨fun i hi => hi, fun i hi => hi, fun i x H3 y hi => ?_⟩
      obtain ⟨e, y⟩ := y
      subst e y
      exact ⟨_, by rw [List.getElem?_map, List.getElem?_range hi]; rfl, G2, .rfl', fun _ _ e => e, f2, fun _ _ _ n => n, by show V.int _ = V.int _; congr 1; omega⟩⟩
theorem xi_r2 {a b : Expr} {p : Pos} {i k : Int} (hm : X.mg "range" = none) (ha : XE X Γ a (aI i)) (hb : XE X Γ b (aI k)) (hh : -(2 ^ 62) ≤ i ∧ i < 2 ^ 62 ∧ -(2 ^ 62) ≤ k ∧ k < 2 ^ 62) (hg : Gl X "range" := by rfl) (hs : starEach [a, b] X.env = [(false, eval a X.env), (false, eval b X.env)] := by rfl) (hs2 : starEach [b] X.env = [(false, eval b X.env)] := by rfl) :
    XI X Γ tg (.Call (.Name "range" p) [a, b] [] pos) ((List.range (k - i).toNat).map fun (j : Nat) => aI (i + (j : Int))) :=
  ⟨_, pi_range2 hg hm pa_wp hs hs2, fun G σ H F o R q => xa_cons ha (xa_cons hb xa_nil hs2) (by rw [hs, hs2]) G σ H F o _ fun vs G1 H1 F1 s1 k1 p1 => by
    cases p1 with
    | cons h t =>
      cases t with
      | cons h2 t =>
        cases t
        refine ⟨_, _, by rw [show _ = V.int _ from h, show _ = V.int _ from h2], hh, q _ G1 H1 F1 s1 k1 fun G2 H2 F2 s2 f2 => ?_⟩
        rw [List.length_map, List.length_range]
        refine ⟨fun i hi => hi, fun i hi => hi, fun i x H3 y hi => ?_⟩
        obtain ⟨e, y⟩ := y
        subst e y
        exact ⟨_, by rw [List.getElem?_map, List.getElem?_range hi]; rfl, G2, .rfl', fun _ _ e => e, f2, fun _ _ _ n => n, rfl⟩⟩
theorem LcS.same {Γ : List En} {vs : List Nat} {σ : L2.St} {G : Gh} {H1 H H' : Hp} {F : Addr → Prop} {D : Addr} {Ps : List As} (h : LcS Γ vs σ G H1 F D Ps H) (e : Same H H') : LcS Γ vs σ G H1 F D Ps H' := by
  obtain ⟨G', F', xs, s, k', hd, n1, n2, ha⟩ := h.ex
  exact ⟨G', F', xs, s.tr (.same e), k'.same e, e _ _ hd, n1, n2, ha⟩
/-- a turn's item is known -/
theorem LcS.item {Γ : List En} {vs : List Nat} {σ : L2.St} {G : Gh} {H1 H H' : Hp} {F F2 : Addr → Prop} {D : Addr} {Ps : List As} {G2 G3 : Gh} {xs : List V} (s : Stp G H1 F G2 H F2) (k : OK (wipeΓ Γ vs) G2 (wipe σ vs) H F2) (hd : H D = some (.lst xs)) (n1 : ∀ u, ¬ G2 D u) (n2 : ¬ F2 D) (ha : AllA G2 xs Ps)
    (s3 : Stp G2 H F2 G3 H' F2) (e : Same H H') (f3 : Fit G3 H') (o3 : ∀ a u, F2 a → ¬ G2 a u → ¬ G3 a u) : ∃ F', Stp G H1 F G3 H' F' ∧ OK (wipeΓ Γ vs) G3 (wipe σ vs) H' F' ∧ H' D = some (.lst xs) ∧ (∀ u, ¬ G3 D u) ∧ ¬ F' D ∧ AllA G3 xs Ps :=
  ⟨F2, s.tr s3, ⟨k.sl.mono s3.le (fun _ _ _ z => e _ _ z) fun _ f => f, f3, fun a u f g => o3 a u f (k.off a u f) g, fun a f => s3.live a (k.th a f)⟩, e _ _ hd, fun u g => by
    rcases s3.new _ _ g with g | g | g
    · exact n1 u g
    · rw [hd] at g; cases g
    · exact n2 g, n2, ha.up s3.le⟩
/-- a comprehension, as a value or into a name -/
structure XC (X : Cx) (Γ : List En) (elt tg iter : Expr) (ifs : List Expr) (scope : Scope) (Ps : List As) : Prop where
  ex : ∃ (own : List (Str × Nat)) (wi : TI) (g : TG) (tt : TT) (te : TE), BlkOk X.N X.env.scope scope own ∧ PI X tg iter wi ∧ (∀ (s : Shared) (H : Hp) (C : Addr) (cl : List (Str × Addr)) (fp : List Addr), PG (X.blk s H scope (compEnvC scope cl C X.env) fp) tg g) ∧
    (∀ (s : Shared) (H : Hp) (C : Addr) (cl : List (Str × Addr)) (fp : List Addr), PTs (X.blk s H scope (compEnvC scope cl C X.env) fp) ifs tt) ∧ (∀ (s : Shared) (H : Hp) (C : Addr) (cl : List (Str × Addr)) (fp : List Addr), PE (X.blk s H scope (compEnvC scope cl C X.env) fp) elt te) ∧
    (∀ x, foldedSetIterable iter X.env x = pure x) ∧ EF (tLc wi g tt te (own.map (·.2))) Γ Ps
theorem XC.f {ifs : List Expr} {Ps : List As} (h : XC X Γ elt tg iter ifs scope Ps) (hc : X.calm = true) (hN : X.N.Nodup) : XF X Γ (.ListComp elt [⟨tg, iter, ifs, 0⟩] scope pos) Ps := by
  obtain ⟨own, wi, g, tt, te, ok, hw, hg, ht, he, hs, ev⟩ := h.ex
  exact XF.of (pe_lc hc hN hw ok hg ht he hs) ev
theorem xc_all {ifs : List Expr} {tt : TT} (hi : XI X Γ tg iter (xs.map r)) (ok : BlkOk X.N X.env.scope scope own) (hj : ∀ i ∈ js, i ∈ own.map (·.2)) (hn : ((own.map (·.2)).all fun i => !isMu Γ[i]?) = true)
    (hΓ : ∀ x, x ∈ xs → wΓ (Γ' x) own = wΓ Γ own) (hg : ∀ x, x ∈ xs → BG X scope tg (wΓ Γ own) (r x) (Γ' x) js)
    (hts : ∀ (s : Shared) (H0 : Hp) (C : Addr) (cl : List (Str × Addr)) (fp : List Addr), PTs (X.blk s H0 scope (compEnvC scope cl C X.env) fp) ifs tt) (hl : xs.length < sizeLine)
    (ht : ∀ x, x ∈ xs → ET tt (Γ' x) (b x)) (he : ∀ x, x ∈ xs → b x = true → BE X scope (Γ' x) elt (s x))
    (hs : ∀ x, foldedSetIterable iter X.env x = pure x := by intro _; rfl) : XC X Γ elt tg iter ifs scope ((xs.filter b).map s) := by
  obtain ⟨wi, hw, ew⟩ := hi.ex
  refine ⟨own, wi, ctxG X scope tg, tt, ctxE X scope elt, ok, hw, (fun s H0 C cl fp => ⟨fun pins s1 σ H v u Q I r h => h s H0 C cl fp pins s1 u I r⟩), hts, (fun s H0 C cl fp => ⟨fun pins s1 σ H Q I h => h s H0 C cl fp pins s1 I⟩), hs, fun G σ H F k Q q => ew G σ H F k _ fun J G1 H1 F1 s1 k1 walk => ?_⟩
  intro D hD
  have hlen : (xs.map r).length = xs.length := List.length_map ..
  refine ⟨fun i m H2 => m = xs.length - i ∧ i ≤ xs.length ∧ LcS Γ (own.map (·.2)) σ G1 H1 F1 D (((xs.take i).filter b).map s) H2, ⟨_, rfl, Nat.zero_le _, lcs_start k1 hD⟩, ?_⟩
  rintro i m H2 ⟨rfl, hile, h⟩
  obtain ⟨G2, F2, ws, st2, k2, hd2, n1, n2, ha2⟩ := id h.ex
  obtain ⟨go, stop, yld⟩ := walk G2 H2 F2 st2 k2.fit
  by_cases hi' : i < xs.length
  · refine .inr ⟨go i (by rw [hlen]; exact hi'), fun H' => LcS Γ (own.map (·.2)) σ G1 H1 F1 D (((xs.take (i + 1)).filter b).map s) H', fun H' h' => ⟨xs.length - (i + 1), by omega, rfl, hi', h'⟩, fun v H3 y => ?_⟩
    obtain ⟨P, eP, G3, s3, sm, f3, o3, p3⟩ := yld i v H3 y (by rw [hlen]; exact hi')
    have hx : xs[i]? = some xs[i] := List.getElem?_eq_getElem hi'
    have hm : xs[i] ∈ xs := List.getElem_mem hi'
    have eP' : P = r xs[i] := by
      rw [List.getElem?_map, hx] at eP
      exact (Option.some.inj eP).symm
    subst eP'
    obtain ⟨F3, st3, k3, hd3, n13, n23, ha3⟩ := LcS.item st2 k2 hd2 n1 n2 ha2 s3 sm f3 o3
    refine lcs_turn (b := b xs[i]) (P := s xs[i]) hD hj (hΓ _ hm) st3 k3 hd3 n13 n23 ha3 p3 ?_ (bg_eg (hg _ hm)) (ht _ hm) (fun hb => be_ev (he _ hm hb)) fun H' h' => ?_
    · rw [List.length_map]
      exact Nat.lt_of_le_of_lt (Nat.le_trans (List.length_filter_le _ _) (by rw [List.length_take]; omega)) hl
    · rw [← filt b xs s hx]
      exact h'
  · have e : i = xs.length := by omega
    subst e
    rw [List.take_length] at h
    exact .inl ⟨stop _ (by rw [hlen]; exact Nat.le_refl _), lcs_end s1 k1 (nomu hn) hD h q⟩
/-- [elt for tg in iter] -/
theorem xc_lc (hi : XI X Γ tg iter (xs.map r)) (ok : BlkOk X.N X.env.scope scope own) (hj : ∀ i ∈ js, i ∈ own.map (·.2)) (hn : ((own.map (·.2)).all fun i => !isMu Γ[i]?) = true)
    (hΓ : ∀ x, x ∈ xs → wΓ (Γ' x) own = wΓ Γ own) (hg : ∀ x, x ∈ xs → BG X scope tg (wΓ Γ own) (r x) (Γ' x) js) (hl : xs.length < sizeLine)
    (he : ∀ x, x ∈ xs → BE X scope (Γ' x) elt (s x))
    (hs : ∀ x, foldedSetIterable iter X.env x = pure x := by intro _; rfl) : XC X Γ elt tg iter [] scope (xs.map s) := by
  have q := xc_all (b := fun _ => true) (s := s) (tt := tYes) (ifs := []) hi ok hj hn hΓ hg (fun _ _ _ _ _ => pts_nil) hl (fun x _ => et_yes) (fun x hx _ => he x hx) hs
  rw [List.filter_eq_self.mpr (fun _ _ => rfl)] at q
  exact q
theorem xf_lc (hc : X.calm = true) (hN : X.N.Nodup) (hi : XI X Γ tg iter (xs.map r)) (ok : BlkOk X.N X.env.scope scope own) (hj : ∀ i ∈ js, i ∈ own.map (·.2)) (hn : ((own.map (·.2)).all fun i => !isMu Γ[i]?) = true)
    (hΓ : ∀ x, x ∈ xs → wΓ (Γ' x) own = wΓ Γ own) (hg : ∀ x, x ∈ xs → BG X scope tg (wΓ Γ own) (r x) (Γ' x) js) (hl : xs.length < sizeLine)
    (he : ∀ x, x ∈ xs → BE X scope (Γ' x) elt (s x))
    (hs : ∀ x, foldedSetIterable iter X.env x = pure x := by intro _; rfl) : XF X Γ (.ListComp elt [⟨tg, iter, [], 0⟩] scope pos) (xs.map s) := (xc_lc hi ok hj hn hΓ hg hl he hs).f hc hN
/-- [elt for tg in iter if c] -/
theorem xc_lcIf (hi : XI X Γ tg iter (xs.map r)) (ok : BlkOk X.N X.env.scope scope own) (hj : ∀ i ∈ js, i ∈ own.map (·.2)) (hn : ((own.map (·.2)).all fun i => !isMu Γ[i]?) = true)
    (hΓ : ∀ x, x ∈ xs → wΓ (Γ' x) own = wΓ Γ own) (hg : ∀ x, x ∈ xs → BG X scope tg (wΓ Γ own) (r x) (Γ' x) js) (hl : xs.length < sizeLine)
    (ht : ∀ x, x ∈ xs → BT X scope (Γ' x) c (b x)) (he : ∀ x, x ∈ xs → b x = true → BE X scope (Γ' x) elt (s x))
    (hs : ∀ x, foldedSetIterable iter X.env x = pure x := by intro _; rfl) : XC X Γ elt tg iter [c] scope ((xs.filter b).map s) :=
  xc_all hi ok hj hn hΓ hg pts_ctx hl (fun x hx => bt_et (ht x hx)) he hs
theorem xf_lcIf (hc : X.calm = true) (hN : X.N.Nodup) (hi : XI X Γ tg iter (xs.map r)) (ok : BlkOk X.N X.env.scope scope own) (hj : ∀ i ∈ js, i ∈ own.map (·.2)) (hn : ((own.map (·.2)).all fun i => !isMu Γ[i]?) = true)
    (hΓ : ∀ x, x ∈ xs → wΓ (Γ' x) own = wΓ Γ own) (hg : ∀ x, x ∈ xs → BG X scope tg (wΓ Γ own) (r x) (Γ' x) js) (hl : xs.length < sizeLine)
    (ht : ∀ x, x ∈ xs → BT X scope (Γ' x) c (b x)) (he : ∀ x, x ∈ xs → b x = true → BE X scope (Γ' x) elt (s x))
    (hs : ∀ x, foldedSetIterable iter X.env x = pure x := by intro _; rfl) : XF X Γ (.ListComp elt [⟨tg, iter, [c], 0⟩] scope pos) ((xs.filter b).map s) := (xc_lcIf hi ok hj hn hΓ hg hl ht he hs).f hc hN
end
/-! ### statements -/
section
variable {X : Cx} {Γ Γ1 : List En} {e a b c : Expr} {st : Stmt} {sts : List Stmt} {Ω : Po} {P : As} {pos pos' : Pos}
theorem x_set (i : Nat) {x : Str} (hN : X.N.Nodup) (he : XE X Γ e P) (hi : X.N[i]? = some x := by rfl) (hx : Loc X.env.scope x := by first | exact Or.inl rfl | exact Or.inr rfl) (hs : swapsWith e (some (.Name x pos')) pos.line X.env = pure false := by rfl)
    (hf : X.fn x = true ∨ X.env.scope.names.lookup x = some .local := by first | exact .inl rfl | exact .inr rfl | assumption) (hΩ : Ω.nx = some (Γ.set i (.im P)) := by rfl) : XS X Γ (.Assign [.Name x pos'] e pos) Ω :=
  XS.of (ps_set hN hi hx pe_wp hs hf) fun G σ H F k D m => he G σ H F k _ fun v G1 H1 F1 s1 k1 p1 => m.nx _ hΩ G1 _ H1 F1 s1 (k1.set i p1)
/-- name = [..], on one line -/
theorem x_setC (i : Nat) {y : Str} {py spos : Pos} {elt tg iter : Expr} {ifs : List Expr} {scope : Scope} {Ps : List As} (hc : X.calm = true) (hN : X.N.Nodup) (h : XC X Γ elt tg iter ifs scope Ps) (hy : X.N[i]? = some y := by rfl) (hyl : X.env.scope.names.lookup y = some .local := by rfl) (hsw : swapsWith (.ListComp elt [⟨tg, iter, ifs, 0⟩] scope pos) (some (.Name y py)) spos.line X.env = pure true := by rfl)
    (hΩ : Ω.nx = some (Γ.set i (.im (aL Ps))) := by rfl) : XS X Γ (.Assign [.Name y py] (.ListComp elt [⟨tg, iter, ifs, 0⟩] scope pos) spos) Ω := by
  obtain ⟨own, wi, g, tt, te, ok, hw, hg, ht, he, hs, ev⟩ := h.ex
  exact XS.of (ps_setLc hc hN hy hyl hsw hw ok hg ht he hs) fun G σ H F k D m => ev.ev G σ H F k _ fun v G1 H1 F1 s1 k1 p1 => m.nx _ hΩ G1 _ H1 F1 s1 (k1.set i p1)
theorem x_expr (he : XE X Γ e P) (hs : swapsWith e none pos.line X.env = pure false := by rfl) (hΩ : Ω.nx = some Γ := by rfl) : XS X Γ (.Expr e pos) Ω :=
  XS.of (ps_expr pe_wp hs) fun G σ H F k D m => he G σ H F k _ fun v G1 H1 F1 s1 k1 p1 => m.nx _ hΩ G1 _ H1 F1 s1 k1
theorem x_doc {x : Str} {j : Nat} (hΩ : Ω.nx = some Γ := by rfl) : XS X Γ (.Expr (.Constant (.str x) j pos) pos') Ω := XS.of ps_doc fun G σ H F k D m => m.nx _ hΩ G σ H F .rfl' k
theorem x_pass (hΩ : Ω.nx = some Γ := by rfl) : XS X Γ (.Pass pos) Ω := XS.of ps_pass fun G σ H F k D m => m.nx _ hΩ G σ H F .rfl' k
theorem x_ret {R : As} {Γr : List En} (hΩ : Ω.rt = some (R, Γr)) (he : XE X Γ e P) (hR : ∀ G v, P.p G v → R.p G v) (hs : Sub Γ Γr) : XS X Γ (.Return (some e) pos) Ω :=
  XS.of (ps_ret pe_wp) fun G σ H F k D m => he G σ H F k _ fun v G1 H1 F1 s1 k1 p1 => by
    obtain ⟨G2, F2, s2, k2⟩ := hs G1 σ H1 F1 k1
    exact m.rt R Γr hΩ v G2 σ H1 F2 (s1.tr s2) k2 (R.up s2.le (hR _ _ p1))
theorem x_retN {R : As} {Γr : List En} (hΩ : Ω.rt = some (R, Γr)) (hR : ∀ G, R.p G .non) (hs : Sub Γ Γr) : XS X Γ (.Return none pos) Ω :=
  XS.of ps_retN fun G σ H F k D m => by
    obtain ⟨G2, F2, s2, k2⟩ := hs G σ H F k
    exact m.rt R Γr hΩ _ G2 σ H F2 s2 k2 (hR _)
theorem x_brk {Γb : List En} (hΩ : Ω.bk = some Γb) (hs : Sub Γ Γb) : XS X Γ (.Break pos) Ω := XS.of ps_break fun G σ H F k D m => by
    obtain ⟨G2, F2, s2, k2⟩ := hs G σ H F k
    exact m.bk Γb hΩ G2 σ H F2 s2 k2
theorem x_cont {Γb : List En} (hΩ : Ω.ct = some Γb) (hs : Sub Γ Γb) : XS X Γ (.Continue pos) Ω := XS.of ps_continue fun G σ H F k D m => by
    obtain ⟨G2, F2, s2, k2⟩ := hs G σ H F k
    exact m.ct Γb hΩ G2 σ H F2 s2 k2
theorem x_ifS {A B : List Stmt} {k : Bool} (hc : XT X Γ c k) (h1 : k = true → XB X Γ A Ω) (h2 : k = false → XB X Γ B Ω) : XS X Γ (.If c A B pos) Ω :=
  XS.of (ps_if pt_wp pss_wp pss_wp) fun G σ H F o D m => hc G σ H F o _ fun G1 H1 F1 s1 k1 => by
    cases k with
    | true => rw [if_pos rfl]; exact h1 rfl G1 σ H1 F1 k1 D (m.later s1)
    | false => rw [if_neg Bool.false_ne_true]; exact h2 rfl G1 σ H1 F1 k1 D (m.later s1)
/-- the test is false: nothing is done -/
theorem x_ifN {A B : List Stmt} (hc : XT X Γ c false) (h2 : XB X Γ B Ω) : XS X Γ (.If c A B pos) Ω := x_ifS hc (fun z => nomatch z) fun _ => h2
theorem x_ifY {A B : List Stmt} (hc : XT X Γ c true) (h2 : XB X Γ A Ω) : XS X Γ (.If c A B pos) Ω := x_ifS hc (fun _ => h2) (fun z => nomatch z)
theorem xb_nil (hΩ : Ω.nx = some Γ := by rfl) : XB X Γ [] Ω := x_nil Sub.rfl' hΩ
/-- name op= e -/
theorem x_aug (i : Nat) {x : Str} {op : Operator} {ti : TIp} {A B : As} (hN : X.N.Nodup) (h0 : Γ[i]? = some (.im A)) (he : XE X Γ e B) (ho : PIp X op ti) (hr : RO ti Γ A B P) (hi : X.N[i]? = some x := by rfl) (hx : Loc X.env.scope x := by first | exact Or.inl rfl | exact Or.inr rfl)
    (hf : X.fn x = true ∨ X.env.scope.names.lookup x = some .local := by first | exact .inl rfl | exact .inr rfl | assumption) (hΩ : Ω.nx = some (Γ.set i (.im P)) := by rfl) : XS X Γ (.AugAssign (.Name x pos') op e pos) Ω :=
  XS.of (ps_aug hN hi hx pe_wp ho hf) fun G σ H F k D m => by
    obtain ⟨v, e1, pv⟩ := k.sl.get h0
    exact ⟨v, e1, he G σ H F k _ fun w G1 H1 F1 s1 k1 p1 => hr G1 σ H1 F1 v w k1 (A.up s1.le pv) p1 _ fun z G2 H2 F2 s2 k2 p2 => m.nx _ hΩ G2 _ H2 F2 (s1.tr s2) (k2.set i p2)⟩
theorem x_augAdd (i : Nat) {x : Str} {m n : Int} (hN : X.N.Nodup) (h0 : Γ[i]? = some (.im (aI m))) (he : XE X Γ e (aI n)) (hi : X.N[i]? = some x := by rfl) (hx : Loc X.env.scope x := by first | exact Or.inl rfl | exact Or.inr rfl)
    (hf : X.fn x = true ∨ X.env.scope.names.lookup x = some .local := by first | exact .inl rfl | exact .inr rfl | assumption) (hΩ : Ω.nx = some (Γ.set i (.im (aI (m + n)))) := by rfl) : XS X Γ (.AugAssign (.Name x pos') .Add e pos) Ω :=
  x_aug (P := aI (m + n)) i hN h0 he ip_add (fun G σ H F x y k hx hy Q q => ⟨m, n, hx, hy, q _ G H F .rfl' k rfl⟩) hi hx hf hΩ
theorem ip_mul : PIp X .Mult (rI CMul fun i j => .int (i * j)) := fun pins s σ H x y v u Q I r1 r2 h => iop_mul pins s σ H x y v u Q I r1 r2 h
theorem x_augMul (i : Nat) {x : Str} {m n : Int} (hN : X.N.Nodup) (h0 : Γ[i]? = some (.im (aI m))) (he : XE X Γ e (aI n)) (hz : CMul m n) (hi : X.N[i]? = some x := by rfl) (hx : Loc X.env.scope x := by first | exact Or.inl rfl | exact Or.inr rfl)
    (hf : X.fn x = true ∨ X.env.scope.names.lookup x = some .local := by first | exact .inl rfl | exact .inr rfl | assumption) (hΩ : Ω.nx = some (Γ.set i (.im (aI (m * n)))) := by rfl) : XS X Γ (.AugAssign (.Name x pos') .Mult e pos) Ω :=
  x_aug (P := aI (m * n)) i hN h0 he ip_mul (ro_I hz fun _ => rfl) hi hx hf hΩ
end
end NS
namespace NS
open PySem L2 PySem.Spec
open PyProof.Rows (envOfC)
/-! ### defs, called where no repr runs -/
structure FnG (P : Program) (w : World) (K : PySem.W.Frag) (mg : Str → Option Value) (base : Heap) (CX : CXT) (k : Nat) (f : Addr) (fd : FuncData) (ps : List Str) (sp : Sp) : Prop where
  len : ∀ vs H Q E, sp vs H Q E → vs.length = ps.length
  run : ∀ (A : Around), A.guards = some [] → Room k A → ∀ (outer : List Env) (s : Shared) (H : Hp), Env0 P w K mg base A outer s H → ∀ (args : Args) (us : List Value) (vs : List V), BindsTo s fd args (ps.zip us) → Vals vs us →
    ∀ (Q : VK) (E : XK), sp vs H Q E → codeAny (model P w) A (.call (.ref f) args) (CR CX outer P w H s Q E) s
abbrev CxD (CX : CXT) (P : Program) (w : World) (K : PySem.W.Frag) (mg : Str → Option Value) (base : Heap) (N : List Str) (qual : Str) (scope : Scope) (f : Addr) (cd : Value) (A : Around) (outer : List Env) (s : Shared) (H : Hp) (E : XK) : Cx := cxOf CX P w K mg base N qual scope f cd A outer s H E
theorem fnG_of {CX : CXT} {P : Program} {w : World} {K : PySem.W.Frag} {mg : Str → Option Value} {base : Heap} {x qual : Str} {st : Stmt} {f : Addr} {fd : FuncData} {N ps : List Str} {k : Nat} {sp : Sp} (F : L2.Fun K x qual st f fd) (S : FnScope N ps (defScope st)) (hl : ∀ vs H Q E, sp vs H Q E → vs.length = ps.length)
    (hbody : ∀ (cdv : Value) (A : Around) (outer : List Env) (s : Shared) (H : Hp) (vs : List V) (Q : VK) (E : XK), A.guards = some [] → Room k (A.deeper (envOfC qual (defScope st) s.heap.objs.size f cdv)) → sp vs H Q E →
      wpSs (CxD CX P w K mg base N qual (defScope st) f cdv A outer s H E) (defBody st) { nx := fun _ H' => Q .non H', rt := Q } (L2.start N vs) H) : FnG P w K mg base CX (k + 1) f fd ps sp := by
  obtain ⟨oc, od, kV, doc, pm, an, cdv, ct, osl, rfl, lk, hcd⟩ := F.ex
  constructor
  · exact hl
  · intro A hgd hr outer s H e0 args us vs hb hv Q E hsp
    have KX : K.In s.heap := fun b o e => (e0.bs b o (e0.mod.kin b o e)).1
    have hnl : s.heap.NoLimit := e0.mod.nolimit.keeps (fun b o e => (e0.bs b o e).1)
    have hknd : ∀ y ∈ ps.zip us, (defScope st).names.lookup y.1 = some .local ∨ ((defScope st).names.lookup y.1 = some .cell ∧ ((cellsFrom (s.heap.objs.size + 1) (defScope st).names []).lookup y.1).isSome = true) := by
      rintro ⟨n, v⟩ hy
      have hm : n ∈ ps := (List.of_mem_zip hy).1
      rcases S.par n hm with hk | hk
      · exact Or.inl hk
      · exact Or.inr ⟨hk, PySem.W.cellsFrom_some _ _ _ (Or.inl hk)⟩
    refine codeAny_call_function hr.depth (KX _ _ lk) rfl S.co S.gen rfl (PySem.W.codeRec_of KX hcd) (hb _ _ _ _ (wpAny_newFunctionEnv_cells S.kind hknd fun env he s1 ic => ?_))
    subst he
    refine And.intro (hnl.keeps ic.toInCall.keep) (codeAny_func ?_)
    have I := inv_start (CX := CX) (P := P) (w := w) (K := K) (mg := mg) (base := base) (qual := qual) (f := f) (cd := cdv) (E := E) S hr.hd e0 (hl _ _ _ _ hsp) hv ic
    have go := hbody cdv A outer s H vs Q E hgd (hr.deeper _) hsp [] s1 I
    refine wpAny_mono go (fun fl s' q => ?_) (fun e s' q => q)
    have out : ∀ (v : V) (u : Value) (σ' : L2.St) (H' : Hp), Inv (cxOf CX P w K mg base N qual (defScope st) f cdv A outer s H E) [] σ' H' s' → RelV v u → Q v H' → CE outer P w H s Q u s' := fun v u σ' H' J r z => ⟨v, H', J.os, J.bare, J.base, J.hok, r, z⟩
    match fl, q with
    | .ret u, ⟨v, σ', H', J, r, z⟩ => exact out v u σ' H' J r z
    | .next, ⟨σ', H', J, z⟩ => exact out .non .none σ' H' J rfl z
    | .brk, ⟨_, _, _, z⟩ => exact z.elim
    | .cont, ⟨_, _, _, z⟩ => exact z.elim
/-- a def of the text, by its name -/
structure DefAt (K : PySem.W.Frag) (mg : Str → Option Value) (x : Str) (st : Stmt) : Prop where
  ex : ∃ f fd, mg x = some (.ref f) ∧ L2.Fun K x x st f fd
structure GF (P : Program) (w : World) (K : PySem.W.Frag) (mg : Str → Option Value) (base : Heap) (CX : CXT) (x : Str) (st : Stmt) (ps : List Str) (k : Nat) (sp : Sp) : Prop where
  ex : ∃ f fd, mg x = some (.ref f) ∧ L2.Fun K x x st f fd ∧ Binds K fd ps [] ∧ FnG P w K mg base CX k f fd ps sp
section
variable {X : Cx} {CX : CXT} {k : Nat} {f : Addr} {fd : FuncData} {ps : List Str} {sp : Sp} {E : XK}
theorem run_g {pins : List (Addr × Obj)} {σ : L2.St} {H : Hp} {s : Shared} {Q : VK} {us bs : List Value} {kw : List (Str × Value)} {vs : List V} (F : FnG X.prog X.w X.K X.mg X.base CX k f fd ps sp) (hgd : X.A.guards = some []) (hr : Room k X.A) (hx : Passes CX X E)
    (I : Inv X pins σ H s) (hb : BindsTo s fd ⟨us, kw⟩ (ps.zip bs)) (r : Vals vs bs) (h : sp vs H Q E) : codeAny (model X.prog X.w) X.A (.call (.ref f) ⟨us, kw⟩) (fun r s' => match r with | .ok (.ret u) => EP X pins σ Q u s' | .ok _ => False | .error e => X.xe e s') s := by
  refine codeAny_mono (F.run X.A hgd hr X.stack s H I.env0 ⟨us, kw⟩ bs vs hb r Q E h) ?_
  intro r s' q
  match r, q with
  | .error e, q => exact hx pins σ H s e s' I q
  | .ok (.ret u), q => exact I.after q
  | .ok .next, q => exact q
  | .ok .brk, q => exact q
  | .ok .cont, q => exact q
theorem pe_g {x : Str} {st : Stmt} {p pos : Pos} {e : Expr} {es : List Expr} {t : TA} (F : GF X.prog X.w X.K X.mg X.base CX x st ps k sp) (hgd : X.A.guards = some []) (hr : Room k X.A) (hx : Passes CX X E) (ha : PA X (e :: es) t) (hg : Gl X x)
    (hdb : (x == ("__debug__" : Str)) = false) (he : starEach (e :: es) X.env = (false, eval e X.env) :: starEach es X.env) (hpl : (backTo pos (starEach es X.env)).any (·.1) = false) :
    PE X (.Call (.Name x p) (e :: es) [] pos) (fun σ H Q => t σ H fun vs H1 => sp vs H1 Q E) := by
  obtain ⟨f, fd, hm, F1, hb, F2⟩ := F.ex
  constructor
  intro pins s σ H Q I h
  refine wpAny_Call_Name_kw (ld_glob I hg hm (PySem.W.callWith_K (h₀ := X.base) I.ok.mod.kin F1.kp (thn (ha.run pos pins s σ H _ I h) fun us s1 hh => ?_) he hpl) hdb)
  obtain ⟨vs, H1, I1, r, q⟩ := hh
  have hln : us.length = ps.length := by rw [← r.length]; exact F2.len _ _ _ _ q
  have hbb := hb s1 us I1.kIn (by rw [List.append_nil]; exact hln)
  rw [List.append_nil] at hbb
  refine ⟨I1.kIn, wpAny_call (codeAny_mono (run_g F2 hgd hr hx I1 hbb r q) fun r s' z => ?_)⟩
  match r, z with
  | .error e, z => exact z
  | .ok (.ret u), z => exact z
  | .ok .next, z => exact z
  | .ok .brk, z => exact z
  | .ok .cont, z => exact z
end
/-! ### promises -/
abbrev noF : Addr → Prop := fun _ => False
/-- arguments that stay as they are -/
def spP {ι : Type} (Pre : ι → Prop) (A : ι → List As) (R : ι → As) : Sp := fun vs H Q _ => ∃ (i : ι) (G : Gh), Pre i ∧ Fit G H ∧ AllA G vs (A i) ∧ ∀ v G' H', Stp G H noF G' H' noF → Fit G' H' → (R i).p G' v → Q v H'
/-- the first argument is owned and stays of its kind -/
def spM {ι : Type} (O O' : ι → Addr → Ob) (Pre : ι → Prop) (A : ι → List As) (R : ι → As) : Sp := fun vs H Q _ => ∃ (i : ι) (p : Addr) (vr : List V) (G : Gh) (F : Addr → Prop), vs = .ref p :: vr ∧ Pre i ∧ OK [.mu (O i p)] G [some (.ref p)] H F ∧ AllA G vr (A i) ∧
  ∀ v G' H' F', Stp G H F G' H' F' → OK [.mu (O' i p)] G' [some (.ref p)] H' F' → (R i).p G' v → Q v H'
abbrev nos (n : Nat) : List En := List.replicate n .no
theorem Sl.nos : ∀ {Γ : List En} {G : Gh} {σ : L2.St} {H : Hp} {F : Addr → Prop}, Sl Γ G σ H F → Sl (nos Γ.length) G σ H F
  | [], _, _, _, _, h => h
  | .no :: Γ, _, _, _, _, ⟨o, r, e, h⟩ => ⟨o, r, e, Sl.nos h⟩
  | .im A :: Γ, _, _, _, _, ⟨v, r, e, _, h⟩ => ⟨_, r, e, Sl.nos h⟩
  | .mu O :: Γ, _, _, _, _, ⟨v, r, F1, F2, e, _, h, _, hs⟩ => ⟨_, r, e, Sl.nos (h.mono .rfl' (fun _ _ _ e => e) fun a f => hs a (.inr f))⟩
theorem Sub.nos {Γ : List En} {n : Nat} (h : Γ.length = n) : Sub Γ (nos n) := fun G σ H F k => ⟨G, F, .rfl', by subst h; exact ⟨k.sl.nos, k.fit, k.off, k.th⟩⟩
theorem Sub.mu {O : Ob} {Γ : List En} {n : Nat} (h : Γ.length = n) : Sub (.mu O :: Γ) (.mu O :: NS.nos n) := fun G σ H F k => ⟨G, F, .rfl', by
  subst h
  obtain ⟨v, r, F1, F2, e, ho, hs, hd, hf⟩ := k.sl
  exact ⟨⟨v, r, F1, F2, e, ho, hs.nos, hd, hf⟩, k.fit, k.off, k.th⟩⟩
theorem sl_start : ∀ {G : Gh} {vs : List V} {Ps : List As} {H : Hp} {F : Addr → Prop} (n : Nat), AllA G vs Ps → Sl (Ps.map En.im ++ nos n) G (vs.map some ++ List.replicate n none) H F
  | _, _, _, _, _, 0, .nil => rfl
  | _, _, _, _, _, n + 1, .nil => ⟨_, _, rfl, sl_start n .nil⟩
  | _, _, _, _, _, n, .cons h t => ⟨_, _, rfl, h, sl_start n t⟩
theorem Stp.shrink {G : Gh} {H : Hp} {F : Addr → Prop} {G' : Gh} {H' : Hp} {F' F2 : Addr → Prop} (s : Stp G H F G' H' F') (h : ∀ a, F2 a → F' a) : Stp G H F G' H' F2 := ⟨s.le, s.keep, s.new, fun a f => s.grow a (h a f), s.live⟩
/-- a context of a def's body -/
structure Cxt (X : Cx) : Prop where
  nd : X.N.Nodup
  cm : X.calm = true
  gd : X.A.guards = some []
section
variable {P : Program} {w : World} {K : PySem.W.Frag} {mg : Str → Option Value} {base : Heap} {x : Str} {st : Stmt} {N ps : List Str} {k : Nat} {ι : Type} {Pre : ι → Prop} {A : ι → List As} {R : ι → As}
theorem gf_pure (D : DefAt K mg x st) (S : FnScope N ps (defScope st)) (hb : ∀ (kV doc pm : Value) (an : Option Addr) (cdv ct : Value) (us : List Value), us.length = ps.length → bindArgs (PySem.W.fnOf x x (defArgs st) (defBody st) (defScope st) .none kV doc pm an cdv ct) ⟨us, []⟩ = pure (ps.zip us))
    (hA : ∀ i, (A i).length = ps.length)
    (hbody : ∀ (i : ι), Pre i → ∀ (f : Addr) (cdv : Value) (B : Around) (outer : List Env) (s : Shared) (H : Hp) (E : XK), Cxt (CxD CX0 P w K mg base N x (defScope st) f cdv B outer s H E).nox → Room k (CxD CX0 P w K mg base N x (defScope st) f cdv B outer s H E).nox.A →
      XB (CxD CX0 P w K mg base N x (defScope st) f cdv B outer s H E).nox ((A i).map En.im ++ nos (N.length - ps.length)) (defBody st) { rt := some (R i, nos N.length) }) :
    GF P w K mg base CX0 x st ps (k + 1) (spP Pre A R) := by
  obtain ⟨f, fd, hm, F⟩ := D.ex
  have hl : ∀ vs H Q E, spP Pre A R vs H Q E → vs.length = ps.length := fun vs H Q E ⟨i, G, _, _, h, _⟩ => by rw [h.length, hA]
  refine ⟨⟨f, fd, hm, F, F.binds hb, fnG_of F S hl fun cdv B outer s H vs Q E hg hr hsp => ?_⟩⟩
  obtain ⟨i, G, hp, hfit, hall, hq⟩ := hsp
  have hlen := hall.length
  have k0 : OK ((A i).map En.im ++ nos (N.length - ps.length)) G (L2.start N vs) H noF := by
    refine ⟨?_, hfit, fun _ _ z => z.elim, fun _ z => z.elim⟩
    unfold L2.start
    rw [hlen, hA]
    exact sl_start _ hall
  have go := hbody i hp f cdv B outer s H E ⟨S.nd, rfl, hg⟩ hr G (L2.start N vs) H noF k0 { nx := fun _ H' => Q .non H', rt := Q } ⟨(fun _ e => nomatch e), fun R' Γr e v G' σ' H' F' s' k' p => by
    cases e
    exact hq v G' H' (s'.shrink fun _ z => z.elim) k'.fit p, (fun _ e => nomatch e), (fun _ e => nomatch e), fun _ _ e => nomatch e⟩
  exact (pss_wp.nox).run
    |> fun r pins s1 I => r pins s1 _ _ _ I go
theorem gf_mut {O O' : ι → Addr → Ob} (pin : ∀ i p v H G F, (O' i p).at' v H G F → v = .ref p) (D : DefAt K mg x st) (S : FnScope N ps (defScope st)) (hb : ∀ (kV doc pm : Value) (an : Option Addr) (cdv ct : Value) (us : List Value), us.length = ps.length → bindArgs (PySem.W.fnOf x x (defArgs st) (defBody st) (defScope st) .none kV doc pm an cdv ct) ⟨us, []⟩ = pure (ps.zip us))
    (hA : ∀ i, (A i).length + 1 = ps.length)
    (hbody : ∀ (i : ι) (p : Addr), Pre i → ∀ (f : Addr) (cdv : Value) (B : Around) (outer : List Env) (s : Shared) (H : Hp) (E : XK), Cxt (CxD CX0 P w K mg base N x (defScope st) f cdv B outer s H E).nox → Room k (CxD CX0 P w K mg base N x (defScope st) f cdv B outer s H E).nox.A →
      XB (CxD CX0 P w K mg base N x (defScope st) f cdv B outer s H E).nox (.mu (O i p) :: ((A i).map En.im ++ nos (N.length - ps.length))) (defBody st) { rt := some (R i, .mu (O' i p) :: nos (N.length - 1)) }) :
    GF P w K mg base CX0 x st ps (k + 1) (spM O O' Pre A R) := by
  obtain ⟨f, fd, hm, F⟩ := D.ex
  have hl : ∀ vs H Q E, spM O O' Pre A R vs H Q E → vs.length = ps.length := fun vs H Q E ⟨i, p, vr, G, F, e, _, _, h, _⟩ => by rw [e, List.length_cons, h.length, hA]
  refine ⟨⟨f, fd, hm, F, F.binds hb, fnG_of F S hl fun cdv B outer s H vs Q E hg hr hsp => ?_⟩⟩
  obtain ⟨i, p, vr, G, F0, rfl, hp, k1, hall, hq⟩ := hsp
  have hlen := hall.length
  have k0 : OK (.mu (O i p) :: ((A i).map En.im ++ nos (N.length - ps.length))) G (L2.start N (.ref p :: vr)) H F0 := by
    obtain ⟨v, r, F1, F2, e, ho, hs, hd, hf⟩ := k1.sl
    have ev : v = V.ref p := by
      have := (List.cons.inj e).1
      exact (Option.some.inj this).symm
    subst ev
    refine ⟨⟨_, _, F1, noF, rfl, ho, ?_, fun _ _ z => z.elim, fun a z => hf a (z.elim .inl fun y => y.elim)⟩, k1.fit, k1.off, k1.th⟩
    rw [List.length_cons, hlen, hA]
    exact sl_start _ hall
  have go := hbody i p hp f cdv B outer s H E ⟨S.nd, rfl, hg⟩ hr G (L2.start N (.ref p :: vr)) H F0 k0 { nx := fun _ H' => Q .non H', rt := Q } ⟨(fun _ e => nomatch e), fun R' Γr e v G' σ' H' F' s' k' pv => by
    cases e
    obtain ⟨v1, r, F1, F2, e, ho, hs, hd, hf⟩ := k'.sl
    have ev := pin _ _ _ _ _ _ ho
    subst ev
    have sub : ∀ a, F1 a → F' a := fun a z => hf a (.inl z)
    exact hq v G' H' F1 (s'.shrink sub) ⟨⟨_, [], F1, noF, rfl, ho, rfl, fun _ _ z => z.elim, fun a z => z.elim id fun y => y.elim⟩, k'.fit, fun a u z => k'.off a u (sub a z), fun a z => k'.th a (sub a z)⟩ pv, (fun _ e => nomatch e), (fun _ e => nomatch e), fun _ _ e => nomatch e⟩
  exact (pss_wp.nox).run
    |> fun r pins s1 I => r pins s1 _ _ _ I go
end
section
variable {X : Cx} {Γ : List En} {x : Str} {st : Stmt} {ps : List Str} {k : Nat} {ι : Type} {Pre : ι → Prop} {A : ι → List As} {R : ι → As} {p pos : Pos} {e : Expr} {es : List Expr}
/-- f(e, ..) -/
theorem x_call (F : GF X.prog X.w X.K X.mg X.base CX0 x st ps k (spP Pre A R)) (C : Cxt X) (hr : Room k X.A) (i : ι) (hp : Pre i) (ha : XA X Γ (e :: es) (A i)) (hg : Gl X x := by rfl)
    (hdb : (x == ("__debug__" : Str)) = false := by decide) (he : starEach (e :: es) X.env = (false, eval e X.env) :: starEach es X.env := by rfl) (hpl : (backTo pos (starEach es X.env)).any (·.1) = false := by rfl) : XE X Γ (.Call (.Name x p) (e :: es) [] pos) (R i) :=
  XE.of (pe_g (E := E0) F C.gd hr pass0 pa_wp hg hdb he hpl) fun G σ H F k Q q => ha G σ H F k _ fun vs G1 H1 F1 s1 k1 p1 => ⟨i, G1, hp, k1.fit, p1, fun v G2 H2 s2 f2 p2 => by
    have s2' : Stp G1 H1 F1 G2 H2 F1 := ⟨s2.le, fun a u _ => s2.keep a u id, fun a u g => (s2.new a u g).imp id fun z => z.imp id fun y => y.elim, fun _ f => .inl f, s2.live⟩
    refine q v G2 H2 F1 (s1.tr s2') ⟨k1.sl.mono s2.le (fun a u _ => s2.keep a u id) fun _ f => f, f2, fun a u f g => ?_, fun a f => s2.live a (k1.th a f)⟩ p2
    rcases s2.new a u g with g | g | g
    · exact k1.off a u f g
    · exact k1.th a f g
    · exact g⟩
theorem set_same {α : Type} : ∀ {l : List α} {i : Nat} {x : α}, l[i]? = some x → l.set i x = l
  | [], _, _, h => by simp at h
  | a :: r, 0, x, h => by
    have : a = x := by simpa using h
    subst this
    rfl
  | a :: r, i + 1, x, h => by
    show a :: r.set i x = a :: r
    rw [set_same (l := r) (by simpa using h)]
/-- f(pool, e, ..), pool the owned slot j -/
theorem y_callM {Γ1 : List En} {O O' : ι → Addr → Ob} (F : GF X.prog X.w X.K X.mg X.base CX0 x st ps k (spM O O' Pre A R)) (C : Cxt X) (hr : Room k X.A) (pin : ∀ i p v H G F, (O i p).at' v H G F → v = .ref p) (pin' : ∀ i p v H G F, (O' i p).at' v H G F → v = .ref p) (j : Nat) {y : Str} {py : Pos} {q : Addr} (i : ι) (hp : Pre i) (ha : YA X Γ Γ1 es (A i)) (hj0 : ∃ O0, Γ[j]? = some (.mu O0) ∧ ∀ v H G F, Ob.at' O0 v H G F → v = .ref q) (hj : Γ1[j]? = some (.mu (O i q))) (hN : X.N[j]? = some y := by rfl)
    (hv : Vis X.env.scope y := by first | exact Or.inl rfl | exact Or.inr (Or.inl rfl) | exact Or.inr (Or.inr rfl)) (hd : (y == ("__debug__" : Str)) = false := by decide) (hcd : (y == ("__classdict__" : Str)) = false := by decide) (hg : Gl X x := by rfl)
    (hdb : (x == ("__debug__" : Str)) = false := by decide) (he : starEach (.Name y py :: es) X.env = (false, eval (.Name y py) X.env) :: starEach es X.env := by rfl) (hpl : (backTo pos (starEach es X.env)).any (·.1) = false := by rfl) : YE X Γ (Γ1.set j (.mu (O' i q))) (.Call (.Name x p) (.Name y py :: es) [] pos) (R i) :=
  YE.of (pe_g (E := E0) F C.gd hr pass0 (pa_cons (pe_var hN hv hd hcd) pa_wp he) hg hdb he hpl) fun G σ H F k Q qq => by
    obtain ⟨O0, hj0, pin0⟩ := hj0
    obtain ⟨v, F1, hσ, ho, hs1, _⟩ := k.sl.own hj0 k.th
    have ev := pin0 _ _ _ _ ho
    subst ev
    refine ⟨_, hσ, ha G σ H F k _ fun vs G1 H1 F1' s1 k1 p1 => ?_⟩
    obtain ⟨v2, F2, hσ2, ho2, hs2, back⟩ := k1.sl.own hj k1.th
    have ev2 := pin _ _ _ _ _ _ ho2
    subst ev2
    refine ⟨i, q, vs, G1, F2, rfl, hp, ⟨⟨_, [], F2, noF, rfl, ho2, rfl, fun _ _ z => z.elim, fun a z => z.elim id fun y => y.elim⟩, k1.fit, fun a u f => k1.off a u (hs2 a f), fun a f => k1.th a (hs2 a f)⟩, p1, fun w G3 H3 F3 s3 k3 p3 => ?_⟩
    obtain ⟨v4, r4, F4, F5, e4, ho4, hs4, hd4, hf4⟩ := k3.sl
    have ev4 := pin' _ _ _ _ _ _ ho4
    subst ev4
    have hF4 : ∀ a, F4 a → F3 a := fun a z => hf4 a (.inl z)
    have grow : ∀ a, F4 a → F2 a ∨ H1 a = none := fun a z => s3.grow a (hF4 a z)
    have sl := back (O' i q) (.ref q) G3 H3 F4 s3.le (fun a u _ nf e => s3.keep a u nf e) ho4 grow
    rw [set_same hσ2] at sl
    refine qq w G3 H3 _ (s1.tr ⟨s3.le, fun a u nf e => s3.keep a u (fun z => nf (hs2 a z)) e, fun a u g => (s3.new a u g).imp id fun z => z.imp id (hs2 a), fun a z => ?_, s3.live⟩) ⟨sl, k3.fit, fun a u z g => ?_, fun a z => ?_⟩ p3
    · rcases z with ⟨z, _⟩ | z
      · exact .inl z
      · exact (grow a z).imp (hs2 a) id
    · rcases z with ⟨z, nz⟩ | z
      · rcases s3.new a u g with g | g | g
        · exact k1.off a u z g
        · exact k1.th a z g
        · exact nz g
      · exact k3.off a u (hF4 a z) g
    · rcases z with ⟨z, nz⟩ | z
      · exact s3.live a (k1.th a z)
      · exact k3.th a (hF4 a z)
end
end NS
namespace NS
open PySem L2 PySem.Spec
/-! ### an owned list -/
def oLq (π : Option Addr) (Ps : List As) : Ob where
  at' := fun v H G F => ∃ p vs, v = .ref p ∧ (∀ q, π = some q → p = q) ∧ H p = some (.lst vs) ∧ AllA G vs Ps ∧ ∀ b, F b ↔ b = p
  stab := fun ⟨p, vs, e, hp, hl, ha, hf⟩ hk hg => ⟨p, vs, e, hp, hk _ _ ((hf p).mpr rfl) hl, ha.up hg, hf⟩
abbrev oL (Ps : List As) : Ob := oLq none Ps
abbrev oLat (p : Addr) (Ps : List As) : Ob := oLq (some p) Ps
section
variable {X : Cx} {Γ : List En} {e a b : Expr} {Ω : Po} {P : As} {Ps : List As} {pos pos' : Pos} {π : Option Addr}
/-- slot i is given a new owned thing -/
theorem Sl.take : ∀ {Γ : List En} {G : Gh} {σ : L2.St} {H : Hp} {F F1 : Addr → Prop} {i : Nat} {O : Ob} {v : V}, Sl Γ G σ H F → i < Γ.length → O.at' v H G F1 → (∀ a, F1 a → F a → False) → Sl (Γ.set i (.mu O)) G (σ.set i (some v)) H (fun a => F a ∨ F1 a)
  | [], _, _, _, _, _, _, _, _, _, h, _, _ => by simp at h
  | .no :: Γ, _, _, _, _, _, 0, _, _, ⟨o, r, e, h⟩, _, ho, hd => by subst e; exact ⟨_, r, _, _, rfl, ho, h, hd, fun a z => z.symm⟩
  | .im A :: Γ, _, _, _, _, _, 0, _, _, ⟨o, r, e, _, h⟩, _, ho, hd => by subst e; exact ⟨_, r, _, _, rfl, ho, h, hd, fun a z => z.symm⟩
  | .mu O :: Γ, _, _, _, _, _, 0, _, _, ⟨o, r, F1, F2, e, _, h, _, hs⟩, _, ho, hd => by subst e; exact ⟨_, r, _, _, rfl, ho, h, fun a z y => hd a z (hs a (.inr y)), fun a z => z.elim .inr fun y => .inl (hs a (.inr y))⟩
  | .no :: Γ, _, _, _, _, _, i + 1, _, _, ⟨o, r, e, h⟩, hi, ho, hd => by subst e; exact ⟨o, _, rfl, Sl.take h (Nat.lt_of_succ_lt_succ hi) ho hd⟩
  | .im A :: Γ, _, _, _, _, _, i + 1, _, _, ⟨o, r, e, ha, h⟩, hi, ho, hd => by subst e; exact ⟨o, _, rfl, ha, Sl.take h (Nat.lt_of_succ_lt_succ hi) ho hd⟩
  | .mu O :: Γ, _, _, _, _, F0, i + 1, _, _, ⟨o, r, Fa, Fb, e, h0, h, hd0, hs⟩, hi, ho, hd => by
    subst e
    exact ⟨o, _, Fa, _, rfl, h0, Sl.take h (Nat.lt_of_succ_lt_succ hi) ho (fun a z y => hd a z (hs a (.inr y))), fun a z y => y.elim (hd0 a z) fun y => hd a y (hs a (.inl z)), fun a z => z.elim (fun z => .inl (hs a (.inl z))) fun z => z.elim (fun z => .inl (hs a (.inr z))) .inr⟩
theorem OK.take {G : Gh} {σ : L2.St} {H : Hp} {F F1 : Addr → Prop} {i : Nat} {O : Ob} {v : V} (k : OK Γ G σ H F) (hi : i < Γ.length) (ho : O.at' v H G F1) (hd : ∀ a, F1 a → ¬ F a) (hg : ∀ a u, F1 a → ¬ G a u) (ht : ∀ a, F1 a → H a ≠ none) : OK (Γ.set i (.mu O)) G (σ.set i (some v)) H (fun a => F a ∨ F1 a) :=
  ⟨k.sl.take hi ho fun a z y => hd a z y, k.fit, fun a u z => z.elim (k.off a u) (hg a u), fun a z => z.elim (k.th a) (ht a)⟩
theorem x_ownL (i : Nat) {x : Str} (hN : X.N.Nodup) (he : XF X Γ e Ps) (hi : X.N[i]? = some x := by rfl) (hl : i < Γ.length := by exact lt_some rfl) (hx : Loc X.env.scope x := by first | exact Or.inl rfl | exact Or.inr rfl) (hs : swapsWith e (some (.Name x pos')) pos.line X.env = pure false := by rfl)
    (hf : X.fn x = true ∨ X.env.scope.names.lookup x = some .local := by first | exact .inl rfl | exact .inr rfl | assumption) (hΩ : Ω.nx = some (Γ.set i (.mu (oL Ps))) := by rfl) : XS X Γ (.Assign [.Name x pos'] e pos) Ω :=
  XS.of (ps_set hN hi hx pe_wp hs hf) fun G σ H F k D m => he G σ H F k _ fun p vs G1 H1 F1 s1 k1 hp hl1 no nf ha => by
    refine m.nx _ hΩ G1 _ H1 (fun a => F1 a ∨ a = p) ⟨s1.le, s1.keep, s1.new, fun a z => ?_, s1.live⟩ (k1.take hl (F1 := fun a => a = p) ⟨p, vs, rfl, (fun _ z => nomatch z), hl1, ha, fun b => Iff.rfl⟩ (fun a z => by subst z; exact nf) (fun a u z => by subst z; exact no u) fun a z => by subst z; rw [hl1]; simp)
    rcases z with z | z
    · exact s1.grow a z
    · subst z; exact .inr hp
/-- an owned list is changed in place -/
theorem own_upd {G : Gh} {σ : L2.St} {H : Hp} {F F1 : Addr → Prop} {i : Nat} {p : Addr} {vs' : List V} {Ps' : List As} (k : OK Γ G σ H F) (hF1 : ∀ a, F1 a ↔ a = p) (hin : F p)
    (back : ∀ (O' : Ob) (v' : V) (G' : Gh) (H' : Hp) (F1' : Addr → Prop), G.le G' → (∀ a u, F a → ¬ F1 a → H a = some u → H' a = some u) → O'.at' v' H' G' F1' → (∀ a, F1' a → F1 a ∨ H a = none) → Sl (Γ.set i (.mu O')) G' (σ.set i (some v')) H' (fun a => (F a ∧ ¬ F1 a) ∨ F1' a))
    (hσ : σ[i]? = some (some (.ref p))) (hπ : ∀ q, π = some q → p = q) (ha : AllA G vs' Ps') : Stp G H F G (upd H p (.lst vs')) F ∧ OK (Γ.set i (.mu (oLq π Ps'))) G σ (upd H p (.lst vs')) F := by
  have ne : ∀ a, ¬ F1 a → a ≠ p := fun a n z => n ((hF1 a).mpr z)
  have live : ∀ a, H a ≠ none → upd H p (.lst vs') a ≠ none := fun a n => by
    by_cases z : a = p
    · subst z; rw [upd_same]; simp
    · rw [upd_ne z]; exact n
  refine ⟨⟨.rfl', fun a u nf e => ?_, fun _ _ g => .inl g, fun _ f => .inl f, live⟩, ⟨?_, fun a u g => ?_, k.off, fun a f => live a (k.th a f)⟩⟩
  · rw [upd_ne (fun z : a = p => nf (z ▸ hin))]; exact e
  · have sl := back (oLq π Ps') (.ref p) G (upd H p (.lst vs')) F1 .rfl' (fun a u f nf e => by rw [upd_ne (ne a nf)]; exact e) ⟨p, vs', rfl, hπ, upd_same, ha, hF1⟩ fun a z => .inl z
    rw [set_same hσ] at sl
    refine sl.mono .rfl' (fun _ _ _ e => e) fun a z => z.elim (fun y => y.1) fun y => ?_
    have := (hF1 a).mp y
    subst this
    exact hin
  · have na : a ≠ p := fun z => k.off p u hin (z ▸ g)
    rcases k.fit a u g with e | ⟨d, o, e⟩
    · exact .inl (by rw [upd_ne na]; exact e)
    · exact .inr ⟨d, o, by rw [upd_ne na]; exact e⟩
/-- reading the owned list at slot i -/
theorem ev_own {i : Nat} {G : Gh} {σ : L2.St} {H : Hp} {F : Addr → Prop} (k : OK Γ G σ H F) (h : Γ[i]? = some (.mu (oLq π Ps))) : ∃ p vs, σ[i]? = some (some (.ref p)) ∧ H p = some (.lst vs) ∧ AllA G vs Ps ∧ F p := by
  obtain ⟨v, F1, hσ, ⟨p, vs, e, hπ, hl, ha, hf⟩, hs, _⟩ := k.sl.own h k.th
  subst e
  exact ⟨p, vs, hσ, hl, ha, hs p ((hf p).mpr rfl)⟩
theorem x_append (i : Nat) {x : Str} {apos cpos : Pos} {px : Pos} (h : Γ[i]? = some (.mu (oLq π Ps))) (he : XE X Γ e P) (hl : Ps.length < sizeLine) (hN : X.N[i]? = some x := by rfl) (hv : Vis X.env.scope x := by first | exact Or.inl rfl | exact Or.inr (Or.inl rfl) | exact Or.inr (Or.inr rfl))
    (hd : (x == ("__debug__" : Str)) = false := by decide) (hcd : (x == ("__classdict__" : Str)) = false := by decide) (hbase : attributeBase (.Name x px) "append" X.env (eval (.Name x px) X.env) = eval (.Name x px) X.env := by rfl)
    (hfew : ((backTo cpos (starEach [e] X.env)).all (fun x => !x.1) && (backToKw cpos (keywordEach [] X.env)).all (fun x => x.1.isSome) && decide ([e].length + ([] : List Keyword).length + (if ([] : List Keyword).isEmpty then 0 else 1) < 30)) = true := by rfl)
    (hline : (apos.endLine == cpos.line) = true := by rfl) (hst : starEach [e] X.env = [(false, eval e X.env)] := by rfl) (hs : swapsWith (.Call (.Attribute (.Name x px) "append" apos) [e] [] cpos) none pos.line X.env = pure false := by rfl) (hΩ : Ω.nx = some (Γ.set i (.mu (oLq π (Ps ++ [P])))) := by rfl) :
    XS X Γ (.Expr (.Call (.Attribute (.Name x px) "append" apos) [e] [] cpos) pos) Ω :=
  XS.of (ps_expr (pe_bm PySem.F.plainAttrs_list PySem.F.slot_list_append PySem.F.type_list_append mt_append (pe_var hN hv hd hcd) pa_wp hbase hfew hline hst (by first | rfl | (rw [show starEach ([] : List Expr) X.env = [] from rfl]; rfl))) hs) fun G σ H F k D m => by
    obtain ⟨p, vs, hσ, hl1, ha1, hin⟩ := ev_own k h
    refine ⟨_, hσ, .inl ⟨rfl, _, SqL.of hl1⟩, xa_cons he xa_nil hst G σ H F k _ fun us G1 H1 F1 s1 k1 p1 => ?_⟩
    cases p1 with
    | cons q1 t =>
      cases t
      obtain ⟨v, F2, hσ2, ⟨p2, vs2, e2, hπ, hl2, ha2, hf2⟩, hs2, back⟩ := k1.sl.own h k1.th
      subst e2
      rw [hσ] at hσ2
      cases hσ2
      obtain ⟨s3, k3⟩ := own_upd (vs' := vs2 ++ [_]) (Ps' := Ps ++ [P]) k1 hf2 (hs2 p ((hf2 p).mpr rfl)) back hσ hπ (ha2.append (.cons q1 .nil))
      exact ⟨p, vs2, _, rfl, rfl, hl2, by rw [ha2.length]; exact hl, m.nx _ hΩ G1 σ _ F1 (s1.tr s3) k3⟩
/-- x[i] = e, x owned -/
theorem x_putL (i : Nat) {x : Str} {px : Pos} {n : Int} {j : Nat} {ix : Expr} (h : Γ[i]? = some (.mu (oLq π Ps))) (he : XE X Γ e P) (hix : XE X Γ ix (aI n)) (hj : ixN Ps.length n = some j) (hN : X.N[i]? = some x := by rfl) (hv : Vis X.env.scope x := by first | exact Or.inl rfl | exact Or.inr (Or.inl rfl) | exact Or.inr (Or.inr rfl))
    (hd : (x == ("__debug__" : Str)) = false := by decide) (hcd : (x == ("__classdict__" : Str)) = false := by decide)
    (hsub : ∀ v, assign (.Subscript (.Name x px) ix pos') X.env v = (do let ov ← holding [v] (eval (.Name x px) X.env); let iv ← holding [v, ov] (eval ix X.env); standAt pos'; holding [v, ov, iv] (setItem ov iv v); release [v, ov, iv] []) := by intro _; rfl)
    (hs : swapsWithSole [.Subscript (.Name x px) ix pos'] e pos.line X.env = pure false := by rfl) (hw : swappedStores [.Subscript (.Name x px) ix pos'] e X.env = pure none := by rfl) (h1 : (assignEach [.Subscript (.Name x px) ix pos'] X.env).map (·.2) = [assign (.Subscript (.Name x px) ix pos') X.env] := by rfl) (hΩ : Ω.nx = some (Γ.set i (.mu (oLq π (Ps.set j P)))) := by rfl) :
    XS X Γ (.Assign [.Subscript (.Name x px) ix pos'] e pos) Ω :=
  XS.of (ps_asg pe_wp (pg_sub (pe_var hN hv hd hcd) pe_wp set_list hsub) hs hw h1) fun G σ H F k D m => he G σ H F k _ fun v G1 H1 F1 s1 k1 p1 => by
    obtain ⟨p, vs, hσ, hl1, ha1, hin⟩ := ev_own k1 h
    refine ⟨_, hσ, hix G1 σ H1 F1 k1 _ fun iv G2 H2 F2 s2 k2 p2 => ?_⟩
    have p2 : iv = .int n := p2
    subst p2
    obtain ⟨v2, F3, hσ2, ⟨p3, vs3, e3, hπ, hl3, ha3, hf3⟩, hs3, back⟩ := k2.sl.own h k2.th
    subst e3
    rw [hσ] at hσ2
    cases hσ2
    have hA : AllA G2 (vs3.set j v) (Ps.set j P) := by
      have go : ∀ {vs : List V} {Ps : List As} (j : Nat), AllA G2 vs Ps → AllA G2 (vs.set j v) (Ps.set j P) := fun {vs Ps} j hh => by
        induction hh generalizing j with
        | nil => exact .nil
        | cons q t ih =>
          cases j with
          | zero => exact .cons (P.up s2.le p1) t
          | succ j => exact .cons q (ih j)
      exact go j ha3
    obtain ⟨s4, k4⟩ := own_upd (vs' := vs3.set j v) (Ps' := Ps.set j P) k2 hf3 (hs3 p ((hf3 p).mpr rfl)) back hσ hπ hA
    exact ⟨p, vs3, n, j, rfl, rfl, hl3, by rw [ha3.length]; exact hj, m.nx _ hΩ G2 σ _ F2 (s1.tr (s2.tr s4)) k4⟩
/-- x[i], x owned -/
theorem x_ixO (i : Nat) {x : Str} {px : Pos} {n : Int} {j : Nat} {ix : Expr} (h : Γ[i]? = some (.mu (oLq π Ps))) (hix : XE X Γ ix (aI n)) (hj : ixN Ps.length n = some j) (hP : Ps[j]? = some P) (hN : X.N[i]? = some x := by rfl) (hv : Vis X.env.scope x := by first | exact Or.inl rfl | exact Or.inr (Or.inl rfl) | exact Or.inr (Or.inr rfl))
    (hd : (x == ("__debug__" : Str)) = false := by decide) (hcd : (x == ("__classdict__" : Str)) = false := by decide) (hs : PlainIx ix := by exact fun _ _ => rfl) : XE X Γ (.Subscript (.Name x px) ix pos) P :=
  XE.of (pe_ix ix_list (pe_var hN hv hd hcd) pe_wp hs) fun G σ H F k Q q => by
    obtain ⟨p, vs, hσ, hl1, ha1, hin⟩ := ev_own k h
    refine ⟨_, hσ, hix G σ H F k _ fun iv G2 H2 F2 s2 k2 p2 => ?_⟩
    obtain ⟨p3, vs3, hσ3, hl3, ha3, _⟩ := ev_own k2 h
    rw [hσ] at hσ3
    cases hσ3
    obtain ⟨v, e, hv⟩ := atI_of ha3 hj hP
    exact ⟨p, vs3, n, v, rfl, p2, SqL.of hl3, e, q v G2 H2 F2 s2 k2 hv⟩
theorem x_lenO (i : Nat) {x : Str} {p px : Pos} (h : Γ[i]? = some (.mu (oLq π Ps))) (hm : X.mg "len" = none) (hN : X.N[i]? = some x := by rfl) (hv : Vis X.env.scope x := by first | exact Or.inl rfl | exact Or.inr (Or.inl rfl) | exact Or.inr (Or.inr rfl))
    (hd : (x == ("__debug__" : Str)) = false := by decide) (hcd : (x == ("__classdict__" : Str)) = false := by decide) (hg : Gl X "len" := by rfl) (he : starEach [.Name x px] X.env = [(false, eval (.Name x px) X.env)] := by rfl) : XE X Γ (.Call (.Name "len" p) [.Name x px] [] pos) (aI Ps.length) :=
  XE.of (pe_callB call_len_seq hg hm boot_len (pa_cons (pe_var hN hv hd hcd) pa_nil he) (by decide) (by decide) he) fun G σ H F k Q q => by
    obtain ⟨p, vs, hσ, hl1, ha1, hin⟩ := ev_own k h
    exact ⟨_, hσ, p, vs, rfl, .inl (SqL.of hl1), q _ G H F .rfl' k (by rw [ha1.length]; rfl)⟩
/-- an owned list is kept for good -/
theorem Sub.frz (i : Nat) (h : Γ[i]? = some (.mu (oLq π Ps))) : Sub Γ (Γ.set i (.im (aL Ps))) := fun G σ H F k => by
  obtain ⟨v, F1, hσ, ⟨p, vs, e, hπ, hl, ha, hf⟩, hs, back⟩ := k.sl.own h k.th
  subst e
  have hp1 : ∀ a, F1 a → a = p := fun a z => (hf a).mp z
  -- first as an owned nothing, then known
  have sl := back ⟨fun _ _ _ F => ∀ a, ¬ F a, fun h _ _ => h⟩ (.ref p) (G.add p (.lst vs)) H noF Gh.le_add (fun _ _ _ _ e => e) (fun _ z => z) fun _ z => z.elim
  rw [set_same hσ] at sl
  have sl2 := sl.set (i := i) (A := aL Ps) (v := .ref p) ⟨p, vs, rfl, Gh.add_at, ha.up Gh.le_add⟩
  rw [List.set_set, set_same hσ] at sl2
  refine ⟨G.add p (.lst vs), fun a => F a ∧ ¬ F1 a, ⟨Gh.le_add, fun _ _ _ e => e, fun a u g => ?_, fun a z => .inl z.1, fun _ n => n⟩, ⟨sl2.mono .rfl' (fun _ _ _ e => e) fun a z => z.elim id fun y => y.elim, fun a u g => ?_, fun a u z g => ?_, fun a z => k.th a z.1⟩⟩
  · rcases g with g | ⟨rfl, _⟩
    · exact .inl g
    · exact .inr (.inr (hs _ ((hf _).mpr rfl)))
  · rcases g with g | ⟨rfl, rfl⟩
    · exact k.fit a u g
    · exact .inl hl
  · rcases g with g | ⟨rfl, _⟩
    · exact k.off a u z.1 g
    · exact z.2 ((hf a).mpr rfl)
end
end NS
namespace NS
open PySem L2 PySem.Spec
/-! ### loops -/
section
variable {X : Cx} {Γ Γe : List En} {tg iter c : Expr} {body : List Stmt} {pos : Pos} {Ω : Po} {α : Type} {xs : List α} {r : α → As} {js : List Nat}
theorem x_for (inv : Nat → List En) (Γ' : Nat → α → List En) (hp : PassesOwn (model X.prog X.w) X.A X.env X.xe) (hc : X.calm = true) (hi : XI X Γ tg iter (xs.map r)) (h0 : Sub Γ (inv 0)) (hg : ∀ i x, xs[i]? = some x → XG X tg (inv i) (r x) (Γ' i x) js)
    (hb : ∀ i x, xs[i]? = some x → XB X (Γ' i x) body { nx := some (inv (i + 1)), ct := some (inv (i + 1)), bk := some Γe, rt := Ω.rt, ro := Ω.ro }) (hd : Sub (inv xs.length) Γe) (hs : ∀ x, foldedSetIterable iter X.env x = pure x := by intro _; rfl) (hΩ : Ω.nx = some Γe := by rfl) :
    XS X Γ (.For tg iter body [] pos) Ω := by
  obtain ⟨wi, hw, ew⟩ := hi.ex
  refine XS.of (ps_for hp hc hw pg_wp pss_wp hs) fun G σ H F k D m => ew G σ H F k _ fun J G1 H1 F1 s1 k1 walk => ?_
  have hlen : (xs.map r).length = xs.length := List.length_map ..
  obtain ⟨Ga, Fa, sa, ka⟩ := h0 G1 σ H1 F1 k1
  have s1a := s1.tr sa
  refine ⟨fun i m' σ2 H2 => m' = xs.length - i ∧ i ≤ xs.length ∧ ∃ G2 F2, Stp G1 H1 F1 G2 H2 F2 ∧ OK (inv i) G2 σ2 H2 F2, ⟨_, rfl, Nat.zero_le _, Ga, Fa, sa, ka⟩, ?_⟩
  rintro i m' σ2 H2 ⟨rfl, hile, G2, F2, st2, k2⟩
  obtain ⟨go, stop, yld⟩ := walk G2 H2 F2 st2 k2.fit
  by_cases hi' : i < xs.length
  · refine .inr ⟨go i (by rw [hlen]; exact hi'), fun σ' H' => ∃ G' F', Stp G1 H1 F1 G' H' F' ∧ OK (inv (i + 1)) G' σ' H' F', fun σ' H' h' => ⟨xs.length - (i + 1), by omega, rfl, hi', h'⟩, fun v H3 y => ?_⟩
    obtain ⟨P, eP, G3, s3, sm, f3, o3, p3⟩ := yld i v H3 y (by rw [hlen]; exact hi')
    have hx : xs[i]? = some xs[i] := List.getElem?_eq_getElem hi'
    have eP' : P = r xs[i] := by
      rw [List.getElem?_map, hx] at eP
      exact (Option.some.inj eP).symm
    subst eP'
    have k3 : OK (inv i) G3 σ2 H3 F2 := ⟨k2.sl.mono s3.le (fun _ _ _ z => sm _ _ z) fun _ f => f, f3, fun a u f g => o3 a u f (k2.off a u f) g, fun a f => s3.live a (k2.th a f)⟩
    have st3 := st2.tr s3
    refine hg i _ hx G3 σ2 H3 F2 v k3 p3 _ fun Gg σg Hg Fg sg kg _ _ => ?_
    have stg := st3.tr sg
    refine hb i _ hx Gg σg Hg Fg kg _ ⟨fun Γn e G' σ' H' F' s' k' => ?_, fun R Γr e v' G' σ' H' F' s' k' p' => m.rt R Γr e v' G' σ' H' F' (s1.tr (stg.tr s')) k' p', fun Γn e G' σ' H' F' s' k' => ?_, fun Γn e G' σ' H' F' s' k' => ?_, fun E Γr e v' G' σ' H' F' s' k' => m.ro E Γr e v' G' σ' H' F' (s1.tr (stg.tr s')) k'⟩
    · cases e; exact ⟨G', F', stg.tr s', k'⟩
    · cases e; exact m.nx _ hΩ G' σ' H' F' (s1.tr (stg.tr s')) k'
    · cases e; exact ⟨G', F', stg.tr s', k'⟩
  · have e : i = xs.length := by omega
    subst e
    obtain ⟨G4, F4, s4, k4⟩ := hd G2 σ2 H2 F2 k2
    exact .inl ⟨stop _ (by rw [hlen]; exact Nat.le_refl _), m.nx _ hΩ G4 σ2 H2 F4 (s1.tr (st2.tr s4)) k4⟩
/-- while c: body; t the logical state, b whether it goes on, μ falls -/
theorem x_while {τ : Type} (inv : τ → List En) (P : τ → Prop) (b : τ → Bool) (μ : τ → Nat) (t0 : τ) (hp : PassesOwn (model X.prog X.w) X.A X.env X.xe) (h0 : Sub Γ (inv t0)) (hP : P t0) (ht : ∀ t, P t → XT X (inv t) c (b t))
    (hb : ∀ t, P t → b t = true → ∃ t', P t' ∧ μ t' < μ t ∧ XB X (inv t) body { nx := some (inv t'), ct := some (inv t'), bk := some Γe, rt := Ω.rt, ro := Ω.ro }) (hd : ∀ t, P t → b t = false → Sub (inv t) Γe) (hΩ : Ω.nx = some Γe := by rfl) :
    XS X Γ (.While c body [] pos) Ω := by
  refine XS.of (ps_while hp pt_wp pss_wp) fun G σ H F k D m => ?_
  obtain ⟨Ga, Fa, sa, ka⟩ := h0 G σ H F k
  refine ⟨fun n σ2 H2 => ∃ t, n = μ t ∧ P t ∧ ∃ G2 F2, Stp G H F G2 H2 F2 ∧ OK (inv t) G2 σ2 H2 F2, ⟨_, t0, rfl, hP, Ga, Fa, sa, ka⟩, ?_⟩
  rintro n σ2 H2 ⟨t, rfl, pt, G2, F2, st2, k2⟩
  refine ht t pt G2 σ2 H2 F2 k2 _ fun G3 H3 F3 s3 k3 => ?_
  have st3 := st2.tr s3
  cases hbt : b t with
  | true =>
    rw [if_pos rfl]
    obtain ⟨t', pt', hm, hbody⟩ := hb t pt hbt
    refine ⟨fun σ' H' => ∃ G' F', Stp G H F G' H' F' ∧ OK (inv t') G' σ' H' F', fun σ' H' ⟨G', F', s', k'⟩ => ⟨μ t', hm, t', rfl, pt', G', F', s', k'⟩, hbody G3 σ2 H3 F3 k3 _ ⟨fun Γn e G' σ' H' F' s' k' => ?_, fun R Γr e v' G' σ' H' F' s' k' p' => m.rt R Γr e v' G' σ' H' F' (st3.tr s') k' p', fun Γn e G' σ' H' F' s' k' => ?_, fun Γn e G' σ' H' F' s' k' => ?_, fun E Γr e v' G' σ' H' F' s' k' => m.ro E Γr e v' G' σ' H' F' (st3.tr s') k'⟩⟩
    · cases e; exact ⟨G', F', st3.tr s', k'⟩
    · cases e; exact m.nx _ hΩ G' σ' H' F' (st3.tr s') k'
    · cases e; exact ⟨G', F', st3.tr s', k'⟩
  | false =>
    rw [if_neg Bool.false_ne_true]
    obtain ⟨G4, F4, s4, k4⟩ := hd t pt hbt G3 σ2 H3 F3 k3
    exact m.nx _ hΩ G4 σ2 H3 F4 (st3.tr s4) k4
end
/-! ### environments, weakened slot by slot -/
def EnLe : En → En → Prop
  | _, .no => True
  | .im A, .im B => ∀ G v, A.p G v → B.p G v
  | .mu O, .mu O' => ∀ v H G F, O.at' v H G F → O'.at' v H G F
  | _, _ => False
inductive Les : List En → List En → Prop
  | nil : Les [] []
  | cons {e e' : En} {Γ Γ' : List En} : EnLe e e' → Les Γ Γ' → Les (e :: Γ) (e' :: Γ')
theorem EnLe.rfl' : ∀ {e : En}, EnLe e e
  | .no => trivial
  | .im _ => fun _ _ h => h
  | .mu _ => fun _ _ _ _ h => h
theorem EnLe.no' : ∀ {e : En}, EnLe e .no
  | .no => trivial
  | .im _ => trivial
  | .mu _ => trivial
theorem EnLe.eq {A B : As} (h : A = B) : EnLe (.im A) (.im B) := by subst h; exact .rfl'
theorem EnLe.imp {A B : As} (h : ∀ G v, A.p G v → B.p G v) : EnLe (.im A) (.im B) := h
theorem EnLe.ow {O O' : Ob} (h : O = O') : EnLe (.mu O) (.mu O') := by subst h; exact .rfl'
theorem Les.sl : ∀ {Γ Γ' : List En} {G : Gh} {σ : L2.St} {H : Hp} {F : Addr → Prop}, Les Γ Γ' → Sl Γ G σ H F → Sl Γ' G σ H F
  | _, _, _, _, _, _, .nil, h => h
  | .no :: _, .no :: _, _, _, _, _, .cons _ t, ⟨o, r, e, h⟩ => ⟨o, r, e, t.sl h⟩
  | .im _ :: _, .no :: _, _, _, _, _, .cons _ t, ⟨o, r, e, _, h⟩ => ⟨_, r, e, t.sl h⟩
  | .mu _ :: _, .no :: _, _, _, _, _, .cons _ t, ⟨o, r, F1, F2, e, _, h, _, hs⟩ => ⟨_, r, e, (t.sl h).mono .rfl' (fun _ _ _ e => e) fun a f => hs a (.inr f)⟩
  | .im _ :: _, .im _ :: _, _, _, _, _, .cons q t, ⟨o, r, e, ha, h⟩ => ⟨o, r, e, q _ _ ha, t.sl h⟩
  | .mu _ :: _, .mu _ :: _, _, _, _, _, .cons q t, ⟨o, r, F1, F2, e, ha, h, hd, hs⟩ => ⟨o, r, F1, F2, e, q _ _ _ _ ha, t.sl h, hd, hs⟩
  | .no :: _, .im _ :: _, _, _, _, _, .cons q _, _ => (q : False).elim
  | .no :: _, .mu _ :: _, _, _, _, _, .cons q _, _ => (q : False).elim
  | .im _ :: _, .mu _ :: _, _, _, _, _, .cons q _, _ => (q : False).elim
  | .mu _ :: _, .im _ :: _, _, _, _, _, .cons q _, _ => (q : False).elim
theorem Sub.les {Γ Γ' : List En} (h : Les Γ Γ') : Sub Γ Γ' := fun G σ H F k => ⟨G, F, .rfl', h.sl k.sl, k.fit, k.off, k.th⟩
/-- some x of a kind stands in slot i -/
theorem ES.ex {t : TS} {Γ : List En} {Ω : Po} {α : Type} {R : α → Prop} {A : α → As} (i : Nat) (h : Γ[i]? = some (.im (aEx R A))) (hx : ∀ x, R x → ES t (Γ.set i (.im (A x))) Ω) : ES t Γ Ω := fun G σ H F k D m => by
  obtain ⟨v, e, x, rx, px⟩ := k.sl.get h
  have k' := k.set (A := A x) i px
  rw [set_same e] at k'
  exact hx x rx G σ H F k' D m
/-- an owned slot is looked into -/
theorem ES.mu {t : TS} {Γ : List En} {Ω : Po} {α : Type} {R : α → Prop} {O : Ob} {O' : α → Ob} (i : Nat) (h : Γ[i]? = some (.mu O)) (ho : ∀ v H G F, O.at' v H G F → ∃ x, R x ∧ (O' x).at' v H G F) (hx : ∀ x, R x → ES t (Γ.set i (.mu (O' x))) Ω) : ES t Γ Ω := fun G σ H F k D m => by
  obtain ⟨v, F1, e, hO, hs, back⟩ := k.sl.own h k.th
  obtain ⟨x, rx, hO'⟩ := ho v H G F1 hO
  have sl := back (O' x) v G H F1 .rfl' (fun _ _ _ _ e => e) hO' fun a z => .inl z
  rw [set_same e] at sl
  exact hx x rx G σ H F ⟨sl.mono .rfl' (fun _ _ _ e => e) fun a z => z.elim (fun y => y.1) (hs a), k.fit, k.off, k.th⟩ D m
end NS
namespace NS
open PySem L2 PySem.Spec
section
variable {X : Cx} {Γ : List En} {e a b : Expr} {p pos : Pos} {α : Type} {xs : List α}
theorem map_aB (f : α → Bool) : (xs.map fun x => aB (f x)) = (xs.map f).map aB := by rw [List.map_map]; rfl
theorem map_aI (f : α → Int) : (xs.map fun x => aI (f x)) = (xs.map f).map aI := by rw [List.map_map]; rfl
theorem x_allM {f : α → Bool} (hc : X.calm = true) (hm : X.mg "all" = none) (ha : XE X Γ e (aL (xs.map fun x => aB (f x)))) (hg : Gl X "all" := by rfl) (he : starEach [e] X.env = [(false, eval e X.env)] := by rfl) : XE X Γ (.Call (.Name "all" p) [e] [] pos) (aB (xs.all f)) :=
  (x_all (bs := xs.map f) hc hm (ha.eq (by rw [map_aB])) hg he).eq (by rw [List.all_map]; rfl)
theorem x_anyM {f : α → Bool} (hc : X.calm = true) (hm : X.mg "any" = none) (ha : XE X Γ e (aL (xs.map fun x => aB (f x)))) (hg : Gl X "any" := by rfl) (he : starEach [e] X.env = [(false, eval e X.env)] := by rfl) : XE X Γ (.Call (.Name "any" p) [e] [] pos) (aB (xs.any f)) :=
  (x_any (bs := xs.map f) hc hm (ha.eq (by rw [map_aB])) hg he).eq (by rw [List.any_map]; rfl)
end
end NS
namespace NS
open PySem L2 PySem.Spec
/-! ### data -/
mutual
inductive DG (G : Gh) : PyData → V → Prop
  | non : DG G .none .non
  | bl (b : Bool) : DG G (.bool b) (.bl b)
  | int (i : Int) : DG G (.int i) (.int i)
  | str (x : Str) : DG G (.str x) (.str x)
  | lst {a : Addr} {vs : List V} {ds : List PyData} : G a (.lst vs) → DGs G ds vs → DG G (.list ds) (.ref a)
  | tup {a : Addr} {vs : List V} {ds : List PyData} : G a (.tup vs) → DGs G ds vs → DG G (.tuple ds) (.ref a)
inductive DGs (G : Gh) : List PyData → List V → Prop
  | nil : DGs G [] []
  | cons {v : V} {vs : List V} {d : PyData} {ds : List PyData} : DG G d v → DGs G ds vs → DGs G (d :: ds) (v :: vs)
end
mutual
theorem DG.dp {K : PySem.W.Frag} {G : Gh} {H : Hp} (f : Fit G H) : ∀ {d : PyData} {v : V}, DG G d v → Dp K H v d
  | _, _, .non => .non
  | _, _, .bl b => .bl b
  | _, _, .int i => .int i
  | _, _, .str x => .str x
  | _, _, .lst g h => .lst (.inl (f _ _ g).rd) (DGs.dp f h)
  | _, _, .tup g h => .tup (.inl (f _ _ g).rd) (DGs.dp f h)
theorem DGs.dp {K : PySem.W.Frag} {G : Gh} {H : Hp} (f : Fit G H) : ∀ {ds : List PyData} {vs : List V}, DGs G ds vs → DpAll K H vs ds
  | _, _, .nil => .nil
  | _, _, .cons h t => .cons (DG.dp f h) (DGs.dp f t)
end
/-- what is known of A is the datum d -/
def IsD (A : As) (d : PyData) : Prop := ∀ G v, A.p G v → DG G d v
theorem isD_I {i : Int} : IsD (aI i) (.int i) := fun G v h => by rw [show v = V.int i from h]; exact .int i
theorem isD_B {i : Bool} : IsD (aB i) (.bool i) := fun G v h => by rw [show v = V.bl i from h]; exact .bl i
theorem isD_S {i : Str} : IsD (aS i) (.str i) := fun G v h => by rw [show v = V.str i from h]; exact .str i
theorem isD_N : IsD aN .none := fun G v h => by rw [show v = V.non from h]; exact .non
theorem isDs {α : Type} {G : Gh} {r : α → As} {f : α → PyData} : ∀ {xs : List α} {vs : List V}, (∀ x ∈ xs, IsD (r x) (f x)) → AllA G vs (xs.map r) → DGs G (xs.map f) vs
  | [], _, _, .nil => .nil
  | x :: xs, _, h, .cons p t => .cons (h x List.mem_cons_self _ _ p) (isDs (fun y m => h y (List.mem_cons_of_mem _ m)) t)
theorem isD_L {α : Type} {r : α → As} {f : α → PyData} {xs : List α} (h : ∀ x ∈ xs, IsD (r x) (f x)) : IsD (aL (xs.map r)) (.list (xs.map f)) := fun G v ⟨a, vs, e, g, hh⟩ => by subst e; exact .lst g (isDs h hh)
theorem isD_T {α : Type} {r : α → As} {f : α → PyData} {xs : List α} (h : ∀ x ∈ xs, IsD (r x) (f x)) : IsD (aT (xs.map r)) (.tuple (xs.map f)) := fun G v ⟨a, vs, e, g, hh⟩ => by subst e; exact .tup g (isDs h hh)
inductive IsDs : List As → List PyData → Prop
  | nil : IsDs [] []
  | cons {A : As} {d : PyData} {As' : List As} {ds : List PyData} : IsD A d → IsDs As' ds → IsDs (A :: As') (d :: ds)
theorem IsDs.to {G : Gh} : ∀ {Ps : List As} {ds : List PyData} {vs : List V}, IsDs Ps ds → AllA G vs Ps → DGs G ds vs
  | _, _, _, .nil, .nil => .nil
  | _, _, _, .cons h t, .cons p q => .cons (h _ _ p) (IsDs.to t q)
theorem isD_Lc {Ps : List As} {ds : List PyData} (h : IsDs Ps ds) : IsD (aL Ps) (.list ds) := fun G v ⟨a, vs, e, g, hh⟩ => by subst e; exact .lst g (h.to hh)
theorem isD_Tc {Ps : List As} {ds : List PyData} (h : IsDs Ps ds) : IsD (aT Ps) (.tuple ds) := fun G v ⟨a, vs, e, g, hh⟩ => by subst e; exact .tup g (h.to hh)
abbrev dI (n : Int) : PyData := .int n
abbrev dLI (ns : List Int) : PyData := .list (ns.map .int)
theorem isD_LI {ns : List Int} : IsD (aLI ns) (dLI ns) := isD_L fun _ _ => isD_I
theorem isD_TI {ns : List Int} : IsD (aTI ns) (.tuple (ns.map .int)) := isD_T fun _ _ => isD_I
/-! ### its shape -/
theorem lay_all {α : Type} {f : α → PyData} {xs : List α} (h : ∀ x ∈ xs, (f x).canLay0 = true) : PyData.canLayAll0 (xs.map f) = true := by
  induction xs with
  | nil => rfl
  | cons x xs ih =>
    rw [List.map_cons, PyData.canLayAll0, h x List.mem_cons_self, ih fun y m => h y (List.mem_cons_of_mem _ m)]
    rfl
theorem dep_all {α : Type} {f : α → PyData} {n : Nat} {xs : List α} (h : ∀ x ∈ xs, (f x).depth ≤ n) : PyData.depthAll (xs.map f) ≤ n := by
  induction xs with
  | nil => exact Nat.zero_le _
  | cons x xs ih =>
    rw [List.map_cons, PyData.depthAll]
    exact Nat.max_le.mpr ⟨h x List.mem_cons_self, ih fun y m => h y (List.mem_cons_of_mem _ m)⟩
/-- can be laid, at most n deep -/
structure Shp (d : PyData) (n : Nat) : Prop where
  lay : d.canLay0 = true
  dep : d.depth ≤ n
theorem Shp.ok {d : PyData} {n : Nat} (h : Shp d n) (hn : n ≤ 64) : SeqAt.shaped d = true := by
  unfold SeqAt.shaped
  rw [h.lay, decide_eq_true (Nat.le_trans h.dep hn)]
  rfl
theorem shp_I {i : Int} : Shp (.int i) 0 := ⟨by rw [PyData.canLay0], by rw [PyData.depth]; exact Nat.le_refl _⟩
theorem shp_B {i : Bool} : Shp (.bool i) 0 := ⟨by rw [PyData.canLay0], by rw [PyData.depth]; exact Nat.le_refl _⟩
theorem shp_N : Shp .none 0 := ⟨by rw [PyData.canLay0], by rw [PyData.depth]; exact Nat.le_refl _⟩
theorem shp_L {α : Type} {f : α → PyData} {n : Nat} {xs : List α} (h : ∀ x ∈ xs, Shp (f x) n) : Shp (.list (xs.map f)) (n + 1) :=
  ⟨by rw [PyData.canLay0]; exact lay_all fun x m => (h x m).lay, by rw [PyData.depth]; exact Nat.succ_le_succ (dep_all fun x m => (h x m).dep)⟩
theorem shp_T {α : Type} {f : α → PyData} {n : Nat} {xs : List α} (h : ∀ x ∈ xs, Shp (f x) n) : Shp (.tuple (xs.map f)) (n + 1) :=
  ⟨by rw [PyData.canLay0]; exact lay_all fun x m => (h x m).lay, by rw [PyData.depth]; exact Nat.succ_le_succ (dep_all fun x m => (h x m).dep)⟩
theorem shp_Lc {n : Nat} {ds : List PyData} (h : ∀ d ∈ ds, Shp d n) : Shp (.list ds) (n + 1) := by
  have q := shp_L (f := id) h
  rwa [List.map_id] at q
theorem shp_Tc {n : Nat} {ds : List PyData} (h : ∀ d ∈ ds, Shp d n) : Shp (.tuple ds) (n + 1) := by
  have q := shp_T (f := id) h
  rwa [List.map_id] at q
theorem Shp.mono {d : PyData} {m n : Nat} (h : Shp d m) (l : m ≤ n) : Shp d n := ⟨h.lay, Nat.le_trans h.dep l⟩
theorem shp_LI {ns : List Int} : Shp (dLI ns) 1 := shp_L fun _ _ => shp_I
theorem shp_TI {ns : List Int} : Shp (.tuple (ns.map .int)) 1 := shp_T fun _ _ => shp_I
/-! ### == -/
/-- f tells its arguments apart -/
def Inj (f : α → PyData) [DecidableEq α] : Prop := ∀ x y, PyData.eqv (f x) (f y) = decide (x = y)
theorem inj_I : Inj (fun i : Int => PyData.int i) := fun x y => by
  show PyData.eqv (.int x) (.int y) = _
  rw [PyData.eqv]
  exact Bool.beq_eq_decide_eq x y
theorem inj_B : Inj (fun i : Bool => PyData.bool i) := fun x y => by
  show PyData.eqv (.bool x) (.bool y) = _
  rw [PyData.eqv]
  exact Bool.beq_eq_decide_eq x y
theorem eqv_all {α : Type} [DecidableEq α] {f : α → PyData} (h : Inj f) : ∀ xs ys : List α, PyData.eqvAll (xs.map f) (ys.map f) = decide (xs = ys)
  | [], [] => by rw [List.map_nil, PyData.eqvAll]; simp
  | [], y :: ys => by rw [List.map_nil, List.map_cons, PyData.eqvAll]; simp
  | x :: xs, [] => by rw [List.map_nil, List.map_cons, PyData.eqvAll]; simp
  | x :: xs, y :: ys => by
    rw [List.map_cons, List.map_cons, PyData.eqvAll, h x y, eqv_all h xs ys]
    by_cases e : x = y <;> by_cases e2 : xs = ys <;> simp [e, e2]
theorem inj_L {α : Type} [DecidableEq α] {f : α → PyData} (h : Inj f) : Inj (fun xs : List α => PyData.list (xs.map f)) := fun x y => by
  show PyData.eqv (.list _) (.list _) = _
  rw [PyData.eqv]
  exact eqv_all h x y
theorem inj_T {α : Type} [DecidableEq α] {f : α → PyData} (h : Inj f) : Inj (fun xs : List α => PyData.tuple (xs.map f)) := fun x y => by
  show PyData.eqv (.tuple _) (.tuple _) = _
  rw [PyData.eqv]
  exact eqv_all h x y
section
variable {X : Cx} {Γ : List En} {a b e : Expr} {A B : As} {da db : PyData} {pos p : Pos} {k : Nat}
theorem ro_eqD (ha : IsD A da) (hb : IsD B db) (sa : SeqAt.shaped da = true) (sb : SeqAt.shaped db = true) : RO (rEqD X.K) Γ A B (aB (PyData.eqv da db)) := fun G σ H F x y o px py Q q =>
  ⟨da, db, (ha G x px).dp o.fit, (hb G y py).dp o.fit, sa, sb, q _ G H F .rfl' o rfl⟩
theorem ro_neD (ha : IsD A da) (hb : IsD B db) (sa : SeqAt.shaped da = true) (sb : SeqAt.shaped db = true) : RO (rNeD X.K) Γ A B (aB (!PyData.eqv da db)) := fun G σ H F x y o px py Q q =>
  ⟨da, db, (ha G x px).dp o.fit, (hb G y py).dp o.fit, sa, sb, q _ G H F .rfl' o rfl⟩
theorem x_eqD (hr : Room k X.A) (h1 : XE X Γ a A) (h2 : XE X Γ b B) (ha : IsD A da) (hb : IsD B db) (sa : SeqAt.shaped da = true) (sb : SeqAt.shaped db = true) : XE X Γ (.Compare a [.Eq] [b] pos) (aB (PyData.eqv da db)) := x_cmp (op_eqD hr.units) h1 h2 (ro_eqD ha hb sa sb) (nomark _)
theorem xt_eqD (hr : Room k X.A) (h1 : XE X Γ a A) (h2 : XE X Γ b B) (ha : IsD A da) (hb : IsD B db) (sa : SeqAt.shaped da = true) (sb : SeqAt.shaped db = true) : XT X Γ (.Compare a [.Eq] [b] pos) (PyData.eqv da db) := xt_cmp (op_eqD hr.units) h1 h2 (ro_eqD ha hb sa sb) (nomark _)
theorem x_neD (hr : Room k X.A) (h1 : XE X Γ a A) (h2 : XE X Γ b B) (ha : IsD A da) (hb : IsD B db) (sa : SeqAt.shaped da = true) (sb : SeqAt.shaped db = true) : XE X Γ (.Compare a [.NotEq] [b] pos) (aB (!PyData.eqv da db)) := x_cmp (op_neD hr.units) h1 h2 (ro_neD ha hb sa sb) (nomark _)
theorem xt_neD (hr : Room k X.A) (h1 : XE X Γ a A) (h2 : XE X Γ b B) (ha : IsD A da) (hb : IsD B db) (sa : SeqAt.shaped da = true) (sb : SeqAt.shaped db = true) : XT X Γ (.Compare a [.NotEq] [b] pos) (!PyData.eqv da db) := xt_cmp (op_neD hr.units) h1 h2 (ro_neD ha hb sa sb) (nomark _)
theorem EVs.eqB {t : TE} {Γ' : List En} {k k' : Bool} (h : EVs t Γ Γ' (aB k)) (q : k = k') : EVs t Γ Γ' (aB k') := q ▸ h
/-! ### < -/
theorem op_ltD (hu : X.A.units + 64 < cLine) : OpR X (compareOp .Lt) (fun x y H Q => ∃ da db, Dp X.K H x da ∧ Dp X.K H y db ∧ PySem.W.alike da db = true ∧ da ≠ .none ∧ da.depth ≤ 64 ∧ Q (.bl (PySem.W.dataLt da db)) H) := by
  intro pins s σ H x y v u Q I rx ry ⟨da, db, h1, h2, al, nn, dp, q⟩
  obtain ⟨as, r1⟩ := Dp.reads I da x v h1 rx
  obtain ⟨bs, r2⟩ := Dp.reads I db y u h2 ry
  have hm : min da.depth db.depth ≤ 64 := Nat.le_trans (Nat.min_le_left _ _) dp
  exact PySem.W.rcLt_alike da db X.A s v u as bs r1 r2 al nn (by omega) X.prog X.w X.xe (EP X pins σ Q) ⟨.bl _, H, I, rfl, q⟩
theorem ro_ltD {G0 : Unit} (ha : IsD A da) (hb : IsD B db) (al : PySem.W.alike da db = true) (nn : da ≠ .none) (dp : da.depth ≤ 64) : RO (fun x y H Q => ∃ da db, Dp X.K H x da ∧ Dp X.K H y db ∧ PySem.W.alike da db = true ∧ da ≠ .none ∧ da.depth ≤ 64 ∧ Q (.bl (PySem.W.dataLt da db)) H) Γ A B (aB (PySem.W.dataLt da db)) := fun G σ H F x y o px py Q q =>
  ⟨da, db, (ha G x px).dp o.fit, (hb G y py).dp o.fit, al, nn, dp, q _ G H F .rfl' o rfl⟩
theorem x_ltD (hr : Room k X.A) (h1 : XE X Γ a A) (h2 : XE X Γ b B) (ha : IsD A da) (hb : IsD B db) (al : PySem.W.alike da db = true) (nn : da ≠ .none) (dp : da.depth ≤ 64) : XE X Γ (.Compare a [.Lt] [b] pos) (aB (PySem.W.dataLt da db)) := x_cmp (op_ltD hr.units) h1 h2 (ro_ltD (G0 := ()) ha hb al nn dp) (nomark _)
theorem xt_ltD (hr : Room k X.A) (h1 : XE X Γ a A) (h2 : XE X Γ b B) (ha : IsD A da) (hb : IsD B db) (al : PySem.W.alike da db = true) (nn : da ≠ .none) (dp : da.depth ≤ 64) : XT X Γ (.Compare a [.Lt] [b] pos) (PySem.W.dataLt da db) := xt_cmp (op_ltD hr.units) h1 h2 (ro_ltD (G0 := ()) ha hb al nn dp) (nomark _)
end
theorem alike_ints : ∀ xs ys : List Int, PySem.W.alikeAll (xs.map .int) (ys.map .int) = true
  | [], _ => by rw [List.map_nil, PySem.W.alikeAll]
  | x :: xs, [] => by rw [List.map_nil, List.map_cons, PySem.W.alikeAll]
  | x :: xs, y :: ys => by rw [List.map_cons, List.map_cons, PySem.W.alikeAll, PySem.W.alike, alike_ints xs ys]; rfl
theorem alike_LI {xs ys : List Int} : PySem.W.alike (dLI xs) (dLI ys) = true := by rw [PySem.W.alike]; exact alike_ints xs ys
theorem alike_TI {xs ys : List Int} : PySem.W.alike (.tuple (xs.map .int)) (.tuple (ys.map .int)) = true := by rw [PySem.W.alike]; exact alike_ints xs ys
/-- Python's order of lists of ints -/
def ltI : List Int → List Int → Bool
  | [], [] => false
  | [], _ :: _ => true
  | _ :: _, [] => false
  | x :: xs, y :: ys => if x = y then ltI xs ys else decide (x < y)
theorem lt_all : ∀ xs ys : List Int, PyProof.Rows.lexLt PyProof.Rows.itemOrd (PySem.W.keyToksAll (xs.map .int)) (PySem.W.keyToksAll (ys.map .int)) = ltI xs ys
  | [], [] => by rw [List.map_nil, PySem.W.keyToksAll]; exact PyProof.Rows.lex_irrefl _
  | [], y :: ys => by
    rw [List.map_nil, List.map_cons, PySem.W.keyToksAll, PySem.W.keyToksAll]
    exact (PySem.W.lex_atom (by intro z; cases z) _ _).trans (by rw [PySem.W.lex_one]; rfl)
  | x :: xs, [] => by
    rw [List.map_nil, List.map_cons, PySem.W.keyToksAll, PySem.W.keyToksAll]
    exact (PySem.W.lex_atom (by intro z; cases z) _ _).trans (by rw [PySem.W.lex_one]; rfl)
  | x :: xs, y :: ys => by
    rw [List.map_cons, List.map_cons]
    have al : PySem.W.alike (.int x) (.int y) = true := by rw [PySem.W.alike]
    by_cases e : x = y
    · subst e
      rw [PySem.W.dataLt_all_yes al (by rw [PyData.eqv]; exact beq_self_eq_true x), lt_all xs ys]
      show ltI xs ys = if x = x then _ else _
      rw [if_pos rfl]
    · rw [PySem.W.dataLt_all_no al (by rw [PyData.eqv]; exact beq_eq_false_iff_ne.mpr e), PySem.W.dataLt_int]
      show _ = if x = y then _ else _
      rw [if_neg e]
theorem lt_LI {xs ys : List Int} : PySem.W.dataLt (dLI xs) (dLI ys) = ltI xs ys := by rw [PySem.W.dataLt_list]; exact lt_all xs ys
theorem lt_TI {xs ys : List Int} : PySem.W.dataLt (.tuple (xs.map .int)) (.tuple (ys.map .int)) = ltI xs ys := by rw [PySem.W.dataLt_tuple]; exact lt_all xs ys
section
variable {X : Cx} {Γ : List En} {a b e : Expr} {A B : As} {da db d : PyData} {pos p : Pos} {k : Nat} {xs ys : List Int}
theorem x_ltLI (hr : Room k X.A) (h1 : XE X Γ a (aLI xs)) (h2 : XE X Γ b (aLI ys)) : XE X Γ (.Compare a [.Lt] [b] pos) (aB (ltI xs ys)) := (x_ltD hr h1 h2 isD_LI isD_LI alike_LI (by intro z; cases z) (Nat.le_trans shp_LI.dep (by decide))).eqB lt_LI
theorem xt_ltLI (hr : Room k X.A) (h1 : XE X Γ a (aLI xs)) (h2 : XE X Γ b (aLI ys)) : XT X Γ (.Compare a [.Lt] [b] pos) (ltI xs ys) := (xt_ltD hr h1 h2 isD_LI isD_LI alike_LI (by intro z; cases z) (Nat.le_trans shp_LI.dep (by decide))).eq lt_LI
theorem eqv_LI : PyData.eqv (dLI xs) (dLI ys) = decide (xs = ys) := inj_L inj_I xs ys
theorem x_eqLI (hr : Room k X.A) (h1 : XE X Γ a (aLI xs)) (h2 : XE X Γ b (aLI ys)) : XE X Γ (.Compare a [.Eq] [b] pos) (aB (decide (xs = ys))) := (x_eqD hr h1 h2 isD_LI isD_LI (shp_LI.ok (by decide)) (shp_LI.ok (by decide))).eqB eqv_LI
theorem xt_eqLI (hr : Room k X.A) (h1 : XE X Γ a (aLI xs)) (h2 : XE X Γ b (aLI ys)) : XT X Γ (.Compare a [.Eq] [b] pos) (decide (xs = ys)) := (xt_eqD hr h1 h2 isD_LI isD_LI (shp_LI.ok (by decide)) (shp_LI.ok (by decide))).eq eqv_LI
theorem x_neLI (hr : Room k X.A) (h1 : XE X Γ a (aLI xs)) (h2 : XE X Γ b (aLI ys)) : XE X Γ (.Compare a [.NotEq] [b] pos) (aB (!decide (xs = ys))) := (x_neD hr h1 h2 isD_LI isD_LI (shp_LI.ok (by decide)) (shp_LI.ok (by decide))).eqB (congrArg not eqv_LI)
theorem xt_neLI (hr : Room k X.A) (h1 : XE X Γ a (aLI xs)) (h2 : XE X Γ b (aLI ys)) : XT X Γ (.Compare a [.NotEq] [b] pos) (!decide (xs = ys)) := (xt_neD hr h1 h2 isD_LI isD_LI (shp_LI.ok (by decide)) (shp_LI.ok (by decide))).eq (congrArg not eqv_LI)
/-! ### repr -/
def isRef : PyData → Bool
  | .list _ => true
  | .tuple _ => true
  | _ => false
theorem call_repr (hg : X.A.guards = some []) (hr : Room k X.A) : CallR X (.builtin "repr") (fun vs H Q => ∃ x d, vs = [x] ∧ Dp X.K H x d ∧ isRef d = true ∧ d.showable = true ∧ Shp d 60 ∧ d.shown.length ≤ sizeLine ∧ Q (.str d.shown) H) := by
  intro pins s σ H xs us Q I r ⟨x, d, e, hd, hf, hs, hp, hz, q⟩
  subst e
  obtain ⟨u, rfl, rx⟩ := vals1 r
  obtain ⟨as, rd⟩ := Dp.reads I d x u hd rx
  have un := hr.units
  have dp := hp.dep
  have go : ∀ a, Reads s.heap (.ref a) d as → wpAny (model X.prog X.w) X.A (call (.builtin "repr") [.ref a]) (EP X pins σ Q) X.xe s := fun a rd =>
    repr_of_reads' rd hs (fun z => by rw [PyData.hasDict_of_canLay d hp.lay] at z; cases z) hg (by omega) (fun _ _ z => z) (fun h' t tk hk => ⟨.str d.shown, H, I.kept hk, ⟨t, rfl⟩, q⟩) hz
  cases rd with
  | list h1 h2 h3 h4 => exact go _ (.list h1 h2 h3 h4)
  | tuple h1 h2 h3 h4 => exact go _ (.tuple h1 h2 h3 h4)
  | none => cases hf
  | bool _ => cases hf
  | int _ _ => cases hf
  | str _ _ => cases hf
  | dict _ _ _ _ _ => cases hf
theorem x_repr (C : Cxt X) (hr : Room k X.A) (hm : X.mg "repr" = none) (ha : XE X Γ e A) (hd : IsD A d) (hf : isRef d = true) (hs : d.showable = true) (hp : Shp d 60) (hz : d.shown.length ≤ sizeLine) (hg : Gl X "repr" := by rfl) (he : starEach [e] X.env = [(false, eval e X.env)] := by rfl) : XE X Γ (.Call (.Name "repr" p) [e] [] pos) (aS d.shown) :=
  x_callB (call_repr C.gd hr) hm (by decide +kernel) (xa_cons ha xa_nil he) (fun G σ H F vs k h Q q => by
    cases h with
    | cons h t =>
      cases t
      exact ⟨_, d, rfl, (hd _ _ h).dp k.fit, hf, hs, hp, hz, q _ G H F .rfl' k rfl⟩) hg (by decide) (by decide) he
end
/-- how long what is shown can be -/
theorem shown_int {i : Int} {n : Nat} (h0 : 0 < n) (h : i.natAbs < 10 ^ n) : (PyData.shown (.int i)).length ≤ n + 1 := by
  rw [PyData.shown]
  show (Str.ofString (toString i)).length ≤ _
  rw [ofString_length]
  exact int_text_length_le10 h0 h
theorem text_from : ∀ (ts : List Str) (k : Nat) (acc : Str) (m : Nat), (∀ t ∈ ts, t.length ≤ m) → (textFrom k acc ts).length ≤ acc.length + ts.length * (m + 2)
  | [], k, acc, m, _ => by
    show acc.length ≤ acc.length + _
    omega
  | t :: ts, k, acc, m, h => by
    have ih := text_from ts (k + 1) (acc ++ (if k > 0 then ", " else "" : String) ++ t) m fun u hu => h u (List.mem_cons_of_mem _ hu)
    have e : (acc ++ (if k > 0 then ", " else "" : String) ++ t).length ≤ acc.length + 2 + t.length := by
      rw [strLen_append, strLen_append]
      split <;> (first | exact Nat.le_refl _ | (show acc.length + 0 + t.length ≤ _; omega))
    have ht := h t List.mem_cons_self
    show (textFrom (k + 1) _ ts).length ≤ _
    rw [List.length_cons, Nat.succ_mul]
    omega
theorem shown_L {α : Type} {f : α → PyData} {xs : List α} {m : Nat} (h : ∀ x ∈ xs, (f x).shown.length ≤ m) : (PyData.shown (.list (xs.map f))).length ≤ xs.length * (m + 2) + 2 := by
  have e : PyData.shownAll (xs.map f) = xs.map fun x => (f x).shown := by
    clear h
    induction xs with
    | nil => rfl
    | cons x xs ih => rw [List.map_cons, PyData.shownAll, ih]; rfl
  rw [PyData.shown, e]
  unfold listText
  rw [strLen_append]
  have q := text_from (xs.map fun x => (f x).shown) 0 "[" m fun t ht => by
    obtain ⟨x, hx, rfl⟩ := List.mem_map.mp ht
    exact h x hx
  rw [List.length_map] at q
  have e1 : ("[" : Str).length = 1 := rfl
  have e2 : (("]" : Str)).length = 1 := rfl
  omega
theorem showable_all {α : Type} {f : α → PyData} {xs : List α} (h : ∀ x ∈ xs, (f x).showable = true) : PyData.showableAll (xs.map f) = true := by
  induction xs with
  | nil => rfl
  | cons x xs ih =>
    rw [List.map_cons, PyData.showableAll, h x List.mem_cons_self, ih fun y m => h y (List.mem_cons_of_mem _ m)]
    rfl
end NS
namespace NS
open PySem L2 PySem.Spec
/-! ### expressions in which an owned thing goes on -/
section
variable {X : Cx} {Γ Γ1 Γ2 Γ3 Γe : List En} {a b c e : Expr} {es : List Expr} {A B P : As} {Ps : List As} {pos p : Pos} {i j : Int}
theorem evs_op {r : R2} {ta tb : TE} (ha : EVs ta Γ Γ1 A) (hb : EVs tb Γ1 Γ2 B) (hr : RO r Γ2 A B P) : EVs (tOp r ta tb) Γ Γ2 P := fun G σ H F k Q q =>
  ha G σ H F k _ fun x G1 H1 F1 s1 k1 p1 => hb G1 σ H1 F1 k1 _ fun y G2 H2 F2 s2 k2 p2 => hr G2 σ H2 F2 x y k2 (A.up s2.le p1) p2 Q fun v G3 H3 F3 s3 k3 p3 => q v G3 H3 F3 (s1.tr (s2.tr s3)) k3 p3
theorem y_op {op : Operator} {r : R2} (ho : OpR X (binaryOp op) r) (ha : YE X Γ Γ1 a A) (hb : YE X Γ1 Γ2 b B) (hr : RO r Γ2 A B P) : YE X Γ Γ2 (.BinOp a op b pos) P := YE.of (pe_op ho pe_wp pe_wp) (evs_op ha hb hr)
theorem y_cmp {op : CmpOp} {r : R2} (ho : OpR X (compareOp op) r) (ha : YE X Γ Γ1 a A) (hb : YE X Γ1 Γ2 b B) (hr : RO r Γ2 A B P) (hm : behindInMarks op b = false) : YE X Γ Γ2 (.Compare a [op] [b] pos) P := YE.of (pe_cmpR ho pe_wp pe_wp hm) (evs_op ha hb hr)
/-- what holds of ints of a kind: {i | R i} -/
abbrev aIs (R : Int → Prop) : As := aEx R aI
theorem ro_Is0 {g : Int → Int → Int} {R S T : Int → Prop} (h : ∀ i j, R i → S j → T (g i j)) : RO (rI0 fun i j => .int (g i j)) Γ (aIs R) (aIs S) (aIs T) := fun G σ H F x y k ⟨i, ri, ex⟩ ⟨j, sj, ey⟩ Q q => ⟨i, j, ex, ey, q _ G H F .rfl' k ⟨_, h i j ri sj, rfl⟩⟩
theorem ro_Is {C : Int → Int → Prop} {g : Int → Int → Int} {R S T : Int → Prop} (hC : ∀ i j, R i → S j → C i j) (h : ∀ i j, R i → S j → T (g i j)) : RO (rI C fun i j => .int (g i j)) Γ (aIs R) (aIs S) (aIs T) := fun G σ H F x y k ⟨i, ri, ex⟩ ⟨j, sj, ey⟩ Q q => ⟨i, j, ex, ey, hC i j ri sj, q _ G H F .rfl' k ⟨_, h i j ri sj, rfl⟩⟩
theorem y_is (h : YE X Γ Γ1 e (aI i)) : YE X Γ Γ1 e (aIs (· = i)) := h.imp fun G v p => ⟨i, rfl, p⟩
theorem y_addI {R S T : Int → Prop} (ha : YE X Γ Γ1 a (aIs R)) (hb : YE X Γ1 Γ2 b (aIs S)) (h : ∀ i j, R i → S j → T (i + j)) : YE X Γ Γ2 (.BinOp a .Add b pos) (aIs T) := y_op op_add ha hb (ro_Is0 h)
theorem y_subI {R S T : Int → Prop} (ha : YE X Γ Γ1 a (aIs R)) (hb : YE X Γ1 Γ2 b (aIs S)) (h : ∀ i j, R i → S j → T (i - j)) : YE X Γ Γ2 (.BinOp a .Sub b pos) (aIs T) := y_op op_sub ha hb (ro_Is0 h)
theorem y_mulI {R S T : Int → Prop} (ha : YE X Γ Γ1 a (aIs R)) (hb : YE X Γ1 Γ2 b (aIs S)) (hC : ∀ i j, R i → S j → CMul i j) (h : ∀ i j, R i → S j → T (i * j)) : YE X Γ Γ2 (.BinOp a .Mult b pos) (aIs T) := y_op op_mul ha hb (ro_Is hC h)
theorem ya_nil : YA X Γ Γ [] [] := xa_nil
theorem ya_cons (ha : YE X Γ Γ1 e P) (hr : YA X Γ1 Γ2 es Ps) (hs : starEach (e :: es) X.env = (false, eval e X.env) :: starEach es X.env := by rfl) : YA X Γ Γ2 (e :: es) (P :: Ps) :=
  YA.of (pa_cons pe_wp pa_wp hs) fun G σ H F k Q q => ha G σ H F k _ fun v G1 H1 F1 s1 k1 p1 => hr G1 σ H1 F1 k1 _ fun vs G2 H2 F2 s2 k2 p2 => q _ G2 H2 F2 (s1.tr s2) k2 (.cons (P.up s2.le p1) p2)
theorem y_tup {k : Nat} (h : YA X Γ Γ1 es Ps) (hl : Ps.length ≤ sizeLine := by first | decide | exact Nat.le_of_ble_eq_true rfl) : YE X Γ Γ1 (.Tuple es k pos) (aT Ps) :=
  YE.of (pe_tup pa_wp) fun G σ H F k Q q => h G σ H F k _ fun vs G1 H1 F1 s1 k1 p1 => ⟨by rw [p1.length]; exact hl, fun p hp => q _ _ _ F1 (s1.tr (.new' hp)) (k1.new hp) ⟨p, vs, rfl, Gh.add_at, AllA.up Gh.le_add p1⟩⟩
/-- a fresh list -/
def EFs (te : TE) (Γ Γ' : List En) (Ps : List As) : Prop := ∀ (G : Gh) (σ : L2.St) (H : Hp) (F : Addr → Prop), OK Γ G σ H F → ∀ Q : VK, (∀ p vs G' H' F', Stp G H F G' H' F' → OK Γ' G' σ H' F' → H p = none → H' p = some (.lst vs) → (∀ u, ¬ G' p u) → ¬ F' p → AllA G' vs Ps → Q (.ref p) H') → te σ H Q
abbrev YF (X : Cx) (Γ Γ' : List En) (e : Expr) (Ps : List As) : Prop := EFs (wpE X e) Γ Γ' Ps
theorem YF.of {t : TE} (h : PE X e t) (ev : EFs t Γ Γ1 Ps) : YF X Γ Γ1 e Ps := fun G σ H F k Q q => fun pins s I => h.run pins s σ H Q I (ev G σ H F k Q q)
theorem YF.imp {Qs : List As} (h : YF X Γ Γ1 e Ps) (i : ∀ G vs, AllA G vs Ps → AllA G vs Qs) : YF X Γ Γ1 e Qs := fun G σ H F k Q q => h G σ H F k Q fun p vs G' H' F' s k' hp hl no nf ha => q p vs G' H' F' s k' hp hl no nf (i _ _ ha)
theorem y_frz (h : YF X Γ Γ1 e Ps) : YE X Γ Γ1 e (aL Ps) := fun G σ H F k Q q => h G σ H F k Q fun p vs G' H' F' s k' hp hl no nf ha =>
  q _ (G'.add p (.lst vs)) H' F' (s.fix hp) (k'.fix hl nf) ⟨p, vs, rfl, Gh.add_at, AllA.up Gh.le_add ha⟩
theorem yf_lst (h : YA X Γ Γ1 es Ps) (hl : Ps.length ≤ sizeLine := by first | decide | exact Nat.le_of_ble_eq_true rfl) : YF X Γ Γ1 (.List es pos) Ps :=
  YF.of (pe_lst pa_wp) fun G σ H F k Q q => h G σ H F k _ fun vs G1 H1 F1 s1 k1 p1 => ⟨by rw [p1.length]; exact hl, fun p hp => lay_l s1 k1 hp p1 q⟩
theorem y_lst (h : YA X Γ Γ1 es Ps) (hl : Ps.length ≤ sizeLine := by first | decide | exact Nat.le_of_ble_eq_true rfl) : YE X Γ Γ1 (.List es pos) (aL Ps) := y_frz (yf_lst h hl)
/-- a menu: any item may be drawn -/
theorem y_menu {R : Int → Prop} (ha : YE X Γ Γ1 a (aL Ps)) (hb : YE X Γ1 Γ2 b (aIs R)) (hR : ∀ i, R i → 0 ≤ i ∧ i < Ps.length) (hP : ∀ Q ∈ Ps, ∀ G v, Q.p G v → P.p G v) (hs : PlainIx b := by exact fun _ _ => rfl) : YE X Γ Γ2 (.Subscript a b pos) P :=
  YE.of (pe_ix ix_list pe_wp pe_wp hs) fun G σ H F k Q q => ha G σ H F k _ fun x G1 H1 F1 s1 k1 p1 => hb G1 σ H1 F1 k1 _ fun y G2 H2 F2 s2 k2 p2 => by
    obtain ⟨l, xs, rfl, g1, h1⟩ := p1
    obtain ⟨n, rn, ey⟩ := p2
    obtain ⟨h0, hl⟩ := hR n rn
    have hlt : n.toNat < Ps.length := by omega
    obtain ⟨v, e, hv⟩ := atI_of (h1.up s2.le) (ixN_nat h0 hl) (List.getElem?_eq_getElem hlt)
    exact ⟨l, xs, n, v, rfl, ey, fit_l k2 (s2.le _ _ g1), e, q v G2 H2 F2 (s1.tr s2) k2 (hP _ (List.getElem_mem hlt) _ _ hv)⟩
theorem y_if {k : Bool} (h : YT X Γ Γ1 c k) (h1 : k = true → YE X Γ1 Γ2 a P) (h2 : k = false → YE X Γ1 Γ2 b P) : YE X Γ Γ2 (.IfExp c a b pos) P :=
  YE.of (pe_ifExp pt_wp pe_wp pe_wp) fun G σ H F o Q q => h G σ H F o _ fun G' H' F' s k' => by
    cases k with
    | true => exact h1 rfl G' σ H' F' k' Q fun w G2 H2 F2 s2 k2 => q w G2 H2 F2 (s.tr s2) k2
    | false => exact h2 rfl G' σ H' F' k' Q fun w G2 H2 F2 s2 k2 => q w G2 H2 F2 (s.tr s2) k2
/-! ### tests on drawn things: both ways -/
/-- a test whose answer is open -/
def EU (tt : TT) (Γ Γ' : List En) : Prop := ∀ (G : Gh) (σ : L2.St) (H : Hp) (F : Addr → Prop), OK Γ G σ H F → ∀ Q : Bool → Hp → Prop, (∀ b G' H' F', Stp G H F G' H' F' → OK Γ' G' σ H' F' → Q b H') → tt σ H Q
abbrev YU (X : Cx) (Γ Γ' : List En) (e : Expr) : Prop := EU (wpT X e) Γ Γ'
theorem YU.of {t : TT} (h : PT X e t) (ev : EU t Γ Γ1) : YU X Γ Γ1 e := fun G σ H F k Q q => fun pins s I => h.run pins s σ H Q I (ev G σ H F k Q q)
theorem yu_eqI {R S : Int → Prop} (ha : YE X Γ Γ1 a (aIs R)) (hb : YE X Γ1 Γ2 b (aIs S)) : YU X Γ Γ2 (.Compare a [.Eq] [b] pos) :=
  YU.of (pt_cmpR op_eq pe_wp pe_wp (nomark _)) fun G σ H F k Q q => ha G σ H F k _ fun x G1 H1 F1 s1 k1 p1 => hb G1 σ H1 F1 k1 _ fun y G2 H2 F2 s2 k2 p2 => by
    obtain ⟨m, _, ex⟩ := p1
    obtain ⟨n, _, ey⟩ := p2
    have ex : x = .int m := ex
    have ey : y = .int n := ey
    subst ex ey
    exact ⟨rfl, _, rfl, q _ G2 H2 F2 (s1.tr s2) k2⟩
def wpU (X : Cx) (e : Expr) : TT := wpW X e
abbrev WU (X : Cx) (Γ Γ' : List En) (e : Expr) : Prop := EU (wpW X e) Γ Γ'
theorem WU.of {t : TT} (h : PW X e t) (ev : EU t Γ Γ1) : WU X Γ Γ1 e := fun G σ H F o Q q => fun whole pins s I => h.run whole pins s σ H Q I (ev G σ H F o Q q)
theorem yu_w (h : WU X Γ Γ1 e) : YU X Γ Γ1 e := YU.of pw_wp.pt h
theorem wu_1 {op : BoolOp} (h : YU X Γ Γ1 a) (hop : op = .And) : WU X Γ Γ1 (.BoolOp op [a] pos) := by subst hop; exact WU.of (pw_and1 pt_wp) h
/-- known k, then an open test -/
theorem wu_and {rest : List Expr} {k : Bool} (h : YT X Γ Γ1 a k) (h2 : k = true → WU X Γ1 Γ2 (.BoolOp .And (b :: rest) pos)) (h3 : k = false → Γ1 = Γ2) : WU X Γ Γ2 (.BoolOp .And (a :: b :: rest) pos) :=
  WU.of (pw_and pt_wp pw_wp) fun G σ H F o Q q => h G σ H F o _ fun G' H' F' s k' => by
    cases k with
    | true => exact h2 rfl G' σ H' F' k' Q fun c G2 H2 F2 s2 k2 => q c G2 H2 F2 (s.tr s2) k2
    | false =>
      have e := h3 rfl
      subst e
      exact q _ G' H' F' s k'
/-! ### statements -/
variable {st : Stmt} {sts : List Stmt} {Ω : Po} {pos' : Pos}
theorem y_set (n : Nat) {x : Str} (hN : X.N.Nodup) (he : YE X Γ Γ1 e P) (hi : X.N[n]? = some x := by rfl) (hx : Loc X.env.scope x := by first | exact Or.inl rfl | exact Or.inr rfl) (hs : swapsWith e (some (.Name x pos')) pos.line X.env = pure false := by rfl)
    (hf : X.fn x = true ∨ X.env.scope.names.lookup x = some .local := by first | exact .inl rfl | exact .inr rfl | assumption) (hΩ : Ω.nx = some (Γ1.set n (.im P)) := by rfl) : XS X Γ (.Assign [.Name x pos'] e pos) Ω :=
  XS.of (ps_set hN hi hx pe_wp hs hf) fun G σ H F k D m => he G σ H F k _ fun v G1 H1 F1 s1 k1 p1 => m.nx _ hΩ G1 _ H1 F1 s1 (k1.set n p1)
theorem y_expr (he : YE X Γ Γ1 e P) (hs : swapsWith e none pos.line X.env = pure false := by rfl) (hΩ : Ω.nx = some Γ1 := by rfl) : XS X Γ (.Expr e pos) Ω :=
  XS.of (ps_expr pe_wp hs) fun G σ H F k D m => he G σ H F k _ fun v G1 H1 F1 s1 k1 p1 => m.nx _ hΩ G1 _ H1 F1 s1 k1
theorem y_ret {R : As} {Γr : List En} (hΩ : Ω.rt = some (R, Γr)) (he : YE X Γ Γ1 e P) (hR : ∀ G v, P.p G v → R.p G v) (hs : Sub Γ1 Γr) : XS X Γ (.Return (some e) pos) Ω :=
  XS.of (ps_ret pe_wp) fun G σ H F k D m => he G σ H F k _ fun v G1 H1 F1 s1 k1 p1 => by
    obtain ⟨G2, F2, s2, k2⟩ := hs G1 σ H1 F1 k1
    exact m.rt R Γr hΩ v G2 σ H1 F2 (s1.tr s2) k2 (R.up s2.le (hR _ _ p1))
theorem y_ifS {A B : List Stmt} {k : Bool} (hc : YT X Γ Γ1 c k) (h1 : k = true → XB X Γ1 A Ω) (h2 : k = false → XB X Γ1 B Ω) : XS X Γ (.If c A B pos) Ω :=
  XS.of (ps_if pt_wp pss_wp pss_wp) fun G σ H F o D m => hc G σ H F o _ fun G1 H1 F1 s1 k1 => by
    cases k with
    | true => rw [if_pos rfl]; exact h1 rfl G1 σ H1 F1 k1 D (m.later s1)
    | false => rw [if_neg Bool.false_ne_true]; exact h2 rfl G1 σ H1 F1 k1 D (m.later s1)
/-- an open test: both ways -/
theorem y_ifU {A B : List Stmt} (hc : YU X Γ Γ1 c) (h1 : XB X Γ1 A Ω) (h2 : XB X Γ1 B Ω) : XS X Γ (.If c A B pos) Ω :=
  XS.of (ps_if pt_wp pss_wp pss_wp) fun G σ H F o D m => hc G σ H F o _ fun k G1 H1 F1 s1 k1 => by
    cases k with
    | true => rw [if_pos rfl]; exact h1 G1 σ H1 F1 k1 D (m.later s1)
    | false => rw [if_neg Bool.false_ne_true]; exact h2 G1 σ H1 F1 k1 D (m.later s1)
theorem yt_val {k : Bool} (h : YE X Γ Γ1 e (aB k)) (he : ∀ whole, isTrue e X.env whole = (do let v ← whole; standAt e.pos; holding [v] (truthy v)) := by intro _; rfl) : YT X Γ Γ1 e k := YT.of (pt_val pe_wp he) fun G σ H F o Q q => h G σ H F o _ fun v G' H' F' s k' p => ⟨k, p, q G' H' F' s k'⟩
theorem yt_not {k : Bool} (h : YT X Γ Γ1 a k) : YT X Γ Γ1 (.UnaryOp .Not a pos) (!k) := YT.of (pt_not pt_wp) fun G σ H F o Q q => h G σ H F o _ fun G' H' F' s k' => q G' H' F' s k'
/-! ### comprehensions in which an owned thing goes on: over a range -/
variable {elt iter tg : Expr} {scope : Scope} {own : List (Str × Nat)} {js : List Nat} {α : Type} {xs : List α} {r s : α → As}
def isNo : Option En → Bool
  | some .no => true
  | _ => false
theorem Sl.unset : ∀ {Γ : List En} {G : Gh} {σ : L2.St} {H : Hp} {F : Addr → Prop} {i : Nat}, Sl Γ G (σ.set i none) H F → isNo Γ[i]? = true → Sl Γ G σ H F
  | [], _, σ, _, _, _, h, n => by cases n
  | .no :: Γ, _, [], _, _, 0, ⟨o, r, e, h⟩, _ => by simp at e
  | .no :: Γ, _, x :: σ, _, _, 0, ⟨o, r, e, h⟩, _ => by
    have e2 : σ = r := by have := e; simp at this; exact this.2
    subst e2
    exact ⟨x, σ, rfl, h⟩
  | .im A :: Γ, _, _, _, _, 0, _, n => by cases n
  | .mu O :: Γ, _, _, _, _, 0, _, n => by cases n
  | .no :: Γ, _, [], _, _, i + 1, ⟨o, r, e, h⟩, n => by simp at e
  | .no :: Γ, _, x :: σ, _, _, i + 1, ⟨o, r, e, h⟩, n => by
    have e2 : x = o ∧ σ.set i none = r := by simpa using e
    obtain ⟨rfl, rfl⟩ := e2
    exact ⟨x, σ, rfl, Sl.unset h (by simpa using n)⟩
  | .im A :: Γ, _, [], _, _, i + 1, ⟨o, r, e, _, h⟩, n => by simp at e
  | .im A :: Γ, _, x :: σ, _, _, i + 1, ⟨o, r, e, ha, h⟩, n => by
    have e2 : x = some o ∧ σ.set i none = r := by simpa using e
    obtain ⟨rfl, rfl⟩ := e2
    exact ⟨o, σ, rfl, ha, Sl.unset h (by simpa using n)⟩
  | .mu O :: Γ, _, [], _, _, i + 1, ⟨o, r, F1, F2, e, _, h, _, _⟩, n => by simp at e
  | .mu O :: Γ, _, x :: σ, _, _, i + 1, ⟨o, r, F1, F2, e, ha, h, hd, hs⟩, n => by
    have e2 : x = some o ∧ σ.set i none = r := by simpa using e
    obtain ⟨rfl, rfl⟩ := e2
    exact ⟨o, σ, F1, F2, rfl, ha, Sl.unset h (by simpa using n), hd, hs⟩
theorem Sl.unwipe {Γ : List En} {G : Gh} {σ : L2.St} {H : Hp} {F : Addr → Prop} : ∀ {vs : List Nat}, Sl Γ G (wipe σ vs) H F → (∀ i ∈ vs, isNo Γ[i]? = true) → Sl Γ G σ H F
  | [], h, _ => h
  | v :: vs, h, n => Sl.unwipe (vs := vs) (Sl.unset h (n v List.mem_cons_self)) fun i hi => n i (List.mem_cons_of_mem _ hi)
theorem yes_of {A B : Hp → Prop} {σ : L2.St} {H : Hp} (h : A H) : tYes σ H (fun b H3 => if b = true then A H3 else B H3) := by
  show (if true = true then A H else B H)
  rw [if_pos rfl]
  exact h
structure LcT (Γ : List En) (vs : List Nat) (σ : L2.St) (G : Gh) (H1 : Hp) (F : Addr → Prop) (D : Addr) (Ps : List As) (H : Hp) : Prop where
  ex : ∃ G' F' xs, Stp G H1 F G' H F' ∧ OK Γ G' (wipe σ vs) H F' ∧ H D = some (.lst xs) ∧ (∀ u, ¬ G' D u) ∧ ¬ F' D ∧ AllA G' xs Ps
abbrev BYE (X : Cx) (scope : Scope) (Γ Γ' : List En) (e : Expr) (P : As) : Prop := ∀ (s : Shared) (H0 : Hp) (C : Addr) (cl : List (Str × Addr)) (fp : List Addr), YE (X.blk s H0 scope (compEnvC scope cl C X.env) fp) Γ Γ' e P
theorem bye_ev (h : BYE X scope Γ Γ1 e P) : EVs (ctxE X scope e) Γ Γ1 P := fun G σ H F k Q q => fun s H0 C cl fp => h s H0 C cl fp G σ H F k Q q
/-- what is walked, with an open z (how many turns ..) -/
structure XJ (X : Cx) (Γ Γ1 : List En) (tg iter : Expr) {β : Type} (R : β → Prop) (As' : β → List As) : Prop where
  ex : ∃ wi, PI X tg iter wi ∧ ∀ (G : Gh) (σ : L2.St) (H : Hp) (F : Addr → Prop), OK Γ G σ H F → ∀ R' : It → Hp → Prop, (∀ z, R z → ∀ J G' H' F', Stp G H F G' H' F' → OK Γ1 G' σ H' F' →
    (∀ (G2 : Gh) (H2 : Hp) (F2 : Addr → Prop), Stp G' H' F' G2 H2 F2 → Fit G2 H2 → (∀ i, i < (As' z).length → J.go i H2) ∧ (∀ i, (As' z).length ≤ i → J.stop i H2) ∧ ∀ i x H3, J.yld i H2 x H3 → i < (As' z).length → ∃ P, (As' z)[i]? = some P ∧ ∃ G3, Stp G2 H2 F2 G3 H3 F2 ∧ Same H2 H3 ∧ Fit G3 H3 ∧ (∀ a u, F2 a → ¬ G2 a u → ¬ G3 a u) ∧ P.p G3 x) → R' J H') → wi σ H R'
theorem xj_of (h : XI X Γ tg iter Ps) : XJ X Γ Γ tg iter (β := Unit) (fun _ => True) (fun _ => Ps) := by
  obtain ⟨wi, hw, ew⟩ := h.ex
  exact ⟨wi, hw, fun G σ H F k R' q => ew G σ H F k R' (q () trivial)⟩
theorem xj_list (hi : YE X Γ Γ1 iter (aL Ps)) : XJ X Γ Γ1 tg iter (β := Unit) (fun _ => True) (fun _ => Ps) := ⟨_, pi_list pe_wp, fun G σ H F k R' q => hi G σ H F k _ fun v G1 H1 F1 s1 k1 p1 => by
  obtain ⟨a, vs, rfl, g, hA⟩ := p1
  refine ⟨a, rfl, ⟨vs, fit_l k1 g⟩, q () trivial _ G1 H1 F1 s1 k1 fun G2 H2 F2 s2 f2 => ?_⟩
  have hs : SqL X.K H2 a vs := .inl (f2 _ _ (s2.le _ _ g)).rd
  refine ⟨fun i hi => ?_, fun i hi => ⟨vs, hs, by rw [hA.length]; exact hi⟩, fun i x H3 y hi => ?_⟩
  · have hi' : i < vs.length := by rw [hA.length]; exact hi
    exact ⟨vs, vs[i], hs, List.getElem?_eq_getElem hi'⟩
  · obtain ⟨e, y⟩ := y
    subst e
    obtain ⟨P, e1, e2⟩ := hA.get' (y vs hs)
    exact ⟨P, e1, G2, .rfl', fun _ _ e => e, f2, fun _ _ _ n => n, P.up s2.le e2⟩⟩
/-- range(e), e some int of R -/
theorem xj_r1 {R : Int → Prop} (hm : X.mg "range" = none) (ha : YE X Γ Γ1 a (aIs R)) (hR : ∀ k, R k → -(2 ^ 62) ≤ k ∧ k < 2 ^ 62) (hg : Gl X "range" := by rfl) (hs : starEach [a] X.env = [(false, eval a X.env)] := by rfl) : XJ X Γ Γ1 tg (.Call (.Name "range" p) [a] [] pos) R (fun k => (List.range k.toNat).map fun (i : Nat) => aI (i : Int)) :=
  ⟨_, pi_range1 hg hm pa_wp hs, fun G σ H F o R' q => ya_cons ha xa_nil hs G σ H F o _ fun vs G1 H1 F1 s1 k1 p1 => by
    cases p1 with
    | cons h t =>
      cases t
      obtain ⟨k, rk, h⟩ := h
      refine ⟨k, by rw [show _ = V.int _ from h], (hR k rk).1, (hR k rk).2, q k rk _ G1 H1 F1 s1 k1 fun G2 H2 F2 s2 f2 => ?_⟩
      rw [List.length_map, List.length_range]
      refine ⟨fun i hi => hi, fun i hi => hi, fun i x H3 y hi => ?_⟩
      obtain ⟨e, y⟩ := y
      subst e y
      exact ⟨_, by rw [List.getElem?_map, List.getElem?_range hi]; rfl, G2, .rfl', fun _ _ e => e, f2, fun _ _ _ n => n, by show V.int _ = V.int _; congr 1; omega⟩⟩
/-- a fresh list, one of some -/
def EFx (te : TE) (Γ Γ' : List En) {β : Type} (R : β → Prop) (Ps : β → List As) : Prop := ∀ (G : Gh) (σ : L2.St) (H : Hp) (F : Addr → Prop), OK Γ G σ H F → ∀ Q : VK, (∀ z, R z → ∀ p vs G' H' F', Stp G H F G' H' F' → OK Γ' G' σ H' F' → H p = none → H' p = some (.lst vs) → (∀ u, ¬ G' p u) → ¬ F' p → AllA G' vs (Ps z) → Q (.ref p) H') → te σ H Q
abbrev YFx (X : Cx) (Γ Γ' : List En) (e : Expr) {β : Type} (R : β → Prop) (Ps : β → List As) : Prop := EFx (wpE X e) Γ Γ' R Ps
theorem YFx.of {β : Type} {R : β → Prop} {Qs : β → List As} {t : TE} (h : PE X e t) (ev : EFx t Γ Γ1 R Qs) : YFx X Γ Γ1 e R Qs := fun G σ H F k Q q => fun pins s I => h.run pins s σ H Q I (ev G σ H F k Q q)
theorem yfx_frz {β : Type} {R : β → Prop} {Qs : β → List As} (h : YFx X Γ Γ1 e R Qs) : YE X Γ Γ1 e (aEx R fun z => aL (Qs z)) := fun G σ H F k Q q => h G σ H F k Q fun z rz p vs G' H' F' s k' hp hl no nf ha =>
  q _ (G'.add p (.lst vs)) H' F' (s.fix hp) (k'.fix hl nf) ⟨z, rz, p, vs, rfl, Gh.add_at, AllA.up Gh.le_add ha⟩
structure YC (X : Cx) (Γ Γ' : List En) (elt tg iter : Expr) (ifs : List Expr) (scope : Scope) {β : Type} (R : β → Prop) (Ps : β → List As) : Prop where
  ex : ∃ (own : List (Str × Nat)) (wi : TI) (g : TG) (tt : TT) (te : TE), BlkOk X.N X.env.scope scope own ∧ PI X tg iter wi ∧ (∀ (s : Shared) (H : Hp) (C : Addr) (cl : List (Str × Addr)) (fp : List Addr), PG (X.blk s H scope (compEnvC scope cl C X.env) fp) tg g) ∧
    (∀ (s : Shared) (H : Hp) (C : Addr) (cl : List (Str × Addr)) (fp : List Addr), PTs (X.blk s H scope (compEnvC scope cl C X.env) fp) ifs tt) ∧ (∀ (s : Shared) (H : Hp) (C : Addr) (cl : List (Str × Addr)) (fp : List Addr), PE (X.blk s H scope (compEnvC scope cl C X.env) fp) elt te) ∧
    (∀ x, foldedSetIterable iter X.env x = pure x) ∧ EFx (tLc wi g tt te (own.map (·.2))) Γ Γ' R Ps
theorem YC.f {β : Type} {R : β → Prop} {Qs : β → List As} {ifs : List Expr} (h : YC X Γ Γ1 elt tg iter ifs scope R Qs) (hc : X.calm = true) (hN : X.N.Nodup) : YFx X Γ Γ1 (.ListComp elt [⟨tg, iter, ifs, 0⟩] scope pos) R Qs := by
  obtain ⟨own, wi, g, tt, te, ok, hw, hg, ht, he, hs, ev⟩ := h.ex
  exact YFx.of (pe_lc hc hN hw ok hg ht he hs) ev
theorem y_setC (i : Nat) {y : Str} {py spos : Pos} {ifs : List Expr} {β : Type} {R : β → Prop} {Qs : β → List As} (hc : X.calm = true) (hN : X.N.Nodup) (h : YC X Γ Γ1 elt tg iter ifs scope R Qs) (hy : X.N[i]? = some y := by rfl) (hyl : X.env.scope.names.lookup y = some .local := by rfl) (hsw : swapsWith (.ListComp elt [⟨tg, iter, ifs, 0⟩] scope pos) (some (.Name y py)) spos.line X.env = pure true := by rfl)
    (hΩ : Ω.nx = some (Γ1.set i (.im (aEx R fun z => aL (Qs z)))) := by rfl) : XS X Γ (.Assign [.Name y py] (.ListComp elt [⟨tg, iter, ifs, 0⟩] scope pos) spos) Ω := by
  obtain ⟨own, wi, g, tt, te, ok, hw, hg, ht, he, hs, ev⟩ := h.ex
  exact XS.of (ps_setLc hc hN hy hyl hsw hw ok hg ht he hs) fun G σ H F k D m => ev G σ H F k _ fun z rz p vs G1 H1 F1 s1 k1 hp hl no nf ha => m.nx _ hΩ (G1.add p (.lst vs)) _ H1 F1 (s1.fix hp) ((k1.fix hl nf).set i ⟨z, rz, p, vs, rfl, Gh.add_at, AllA.up Gh.le_add ha⟩)
/-- [elt for tg in iter]: inv i the environment ahead of turn i (its own names forgotten); Γi i x with the item; Γo i x behind the element -/
theorem yc_lc {β : Type} {R : β → Prop} {xs : β → List α} (inv : β → Nat → List En) (Γi Γo : β → Nat → α → List En) (hi : XJ X Γ Γ1 tg iter R (fun z => (xs z).map r)) (ok : BlkOk X.N X.env.scope scope own) (hj : ∀ i ∈ js, i ∈ own.map (·.2)) (h0 : ∀ z, wΓ Γ1 own = inv z 0)
    (hΓ : ∀ z i x, wΓ (Γo z i x) own = inv z (i + 1)) (hg : ∀ z i x, R z → (xs z)[i]? = some x → BG X scope tg (inv z i) (r x) (Γi z i x) js) (hl : ∀ z, R z → (xs z).length < sizeLine)
    (he : ∀ z i x, R z → (xs z)[i]? = some x → BYE X scope (Γi z i x) (Γo z i x) elt (s x))
    (hno : ∀ z, ((own.map (·.2)).all fun i => isNo (inv z (xs z).length)[i]?) = true) (hend : ∀ z, R z → Sub (inv z (xs z).length) Γe)
    (hs : ∀ x, foldedSetIterable iter X.env x = pure x := by intro _; rfl) : YC X Γ Γe elt tg iter [] scope R (fun z => (xs z).map s) := by
  obtain ⟨wi, hw, ew⟩ := hi.ex
  refine ⟨own, wi, ctxG X scope tg, tYes, ctxE X scope elt, ok, hw, (fun s H0 C cl fp => ⟨fun pins s1 σ H v u Q I r h => h s H0 C cl fp pins s1 u I r⟩), (fun _ _ _ _ _ => pts_nil), (fun s H0 C cl fp => ⟨fun pins s1 σ H Q I h => h s H0 C cl fp pins s1 I⟩), hs, fun G σ H F k Q q => ew G σ H F k _ fun z rz J G1 H1 F1 s1 k1 walk => ?_⟩
  intro D hD
  have hlen : ((xs z).map r).length = (xs z).length := List.length_map ..
  obtain ⟨n1', n2'⟩ := k1.off' hD
  have kw : OK (inv z 0) G1 (wipe σ (own.map (·.2))) H1 F1 := h0 z ▸ k1.wipe (own.map (·.2))
  refine ⟨fun i m H2 => m = (xs z).length - i ∧ i ≤ (xs z).length ∧ LcT (inv z i) (own.map (·.2)) σ G1 H1 F1 D (((xs z).take i).map s) H2, ⟨_, rfl, Nat.zero_le _, G1, F1, [], .same (same_new hD), kw.same (same_new hD), upd_same, n1', n2', .nil⟩, ?_⟩
  rintro i m H2 ⟨rfl, hile, h⟩
  obtain ⟨G2, F2, ws, st2, k2, hd2, n1, n2, ha2⟩ := h.ex
  obtain ⟨go, stop, yld⟩ := walk G2 H2 F2 st2 k2.fit
  by_cases hi' : i < (xs z).length
  · refine .inr ⟨go i (by rw [hlen]; exact hi'), fun H' => LcT (inv z (i + 1)) (own.map (·.2)) σ G1 H1 F1 D (((xs z).take (i + 1)).map s) H', fun H' h' => ⟨(xs z).length - (i + 1), by omega, rfl, hi', h'⟩, fun v H3 y => ?_⟩
    obtain ⟨P, eP, G3, s3, sm, f3, o3, p3⟩ := yld i v H3 y (by rw [hlen]; exact hi')
    have hx : (xs z)[i]? = some (xs z)[i] := List.getElem?_eq_getElem hi'
    have eP' : P = r (xs z)[i] := by
      rw [List.getElem?_map, hx] at eP
      exact (Option.some.inj eP).symm
    subst eP'
    have k3 : OK (inv z i) G3 (wipe σ (own.map (·.2))) H3 F2 := ⟨k2.sl.mono s3.le (fun _ _ _ z => sm _ _ z) fun _ f => f, f3, fun a u f g => o3 a u f (k2.off a u f) g, fun a f => s3.live a (k2.th a f)⟩
    have st3 := st2.tr s3
    have hd3 : H3 D = some (.lst ws) := sm _ _ hd2
    have n13 : ∀ u, ¬ G3 D u := fun u g => by
      rcases s3.new _ _ g with g | g | g
      · exact n1 u g
      · rw [hd2] at g; cases g
      · exact n2 g
    refine bg_eg (hg z i _ rz hx) G3 _ H3 F2 v k3 p3 _ fun Gg σg Hg Fg sg kg lg eg => ?_
    have wσ : wipe σg (own.map (·.2)) = wipe σ (own.map (·.2)) := wipe_same hj (by rw [lg, wipe_length]) eg
    refine ⟨wσ, ?_⟩
    refine yes_of ?_
    refine bye_ev (he z i _ rz hx) Gg σg Hg Fg kg _ fun y G4 H4 F4 s4 k4 p4 => ?_
    have s34 := sg.tr s4
    have d1 : H4 D = some (.lst ws) := s34.keep _ _ n2 hd3
    have d2 : ∀ u, ¬ G4 D u := fun u g => by
      rcases s34.new _ _ g with g | g | g
      · exact n13 u g
      · rw [hd3] at g; cases g
      · exact n2 g
    have d3 : ¬ F4 D := fun f => by
      rcases s34.grow _ f with f | f
      · exact n2 f
      · rw [hd3] at f; cases f
    have hm : ((xs z).take (i + 1)).map s = ((xs z).take i).map s ++ [s (xs z)[i]] := by
      rw [List.take_add_one, hx, List.map_append]
      rfl
    refine ⟨ws, d1, by rw [ha2.length, List.length_map, List.length_take]; have := hl z rz; omega, G4, F4, ws ++ [y], ?_, ?_, upd_same, d2, d3, ?_⟩
    · have s' := st3.tr s34
      refine ⟨s'.le, fun a u nf e => ?_, s'.new, s'.grow, fun a n => ?_⟩
      · rw [upd_ne (ne_of_none e hD)]; exact s'.keep a u nf e
      · by_cases e : a = D
        · subst e; exact absurd hD n
        · rw [upd_ne e]; exact s'.live a n
    · have w := k4.wipe (own.map (·.2))
      have w' : OK (inv z (i + 1)) G4 (wipe σ (own.map (·.2))) H4 F4 := by
        have e1 := hΓ z i (xs z)[i]
        unfold wΓ at e1
        rw [e1, wσ] at w
        exact w
      refine ⟨w'.sl.mono .rfl' (fun a u f e => ?_) (fun _ f => f), fun a u g => ?_, w'.off, fun a f => ?_⟩
      · rw [upd_ne (fun z : a = D => d3 (z ▸ f))]; exact e
      · have ne : a ≠ D := fun z : a = D => d2 u (z ▸ g)
        rcases w'.fit a u g with e | ⟨m, o, e⟩
        · exact .inl (by rw [upd_ne ne]; exact e)
        · exact .inr ⟨m, o, by rw [upd_ne ne]; exact e⟩
      · rw [upd_ne (fun z : a = D => d3 (z ▸ f))]; exact w'.th a f
    · rw [hm]
      exact (ha2.up (s3.le.tr s34.le)).append (.cons p4 .nil)
  · have e : i = (xs z).length := by omega
    subst e
    rw [List.take_length] at ha2
    have kend : OK (inv z (xs z).length) G2 σ H2 F2 := ⟨Sl.unwipe k2.sl (fun i hi => List.all_eq_true.mp (hno z) i hi), k2.fit, k2.off, k2.th⟩
    obtain ⟨G5, F5, s5, k5⟩ := hend z rz G2 σ H2 F2 kend
    refine .inl ⟨stop _ (by rw [hlen]; exact Nat.le_refl _), q z rz D ws G5 H2 F5 (s1.tr (st2.tr s5)) k5 (Classical.byContradiction fun n => s1.live D n hD) hd2 (fun u g => ?_) (fun f => ?_) (ha2.up s5.le)⟩
    · rcases s5.new _ _ g with g | g | g
      · exact n1 u g
      · rw [hd2] at g; cases g
      · exact n2 g
    · rcases s5.grow _ f with f | f
      · exact n2 f
      · rw [hd2] at f; cases f
theorem yf_lc {β : Type} {R : β → Prop} {xs : β → List α} (inv : β → Nat → List En) (Γi Γo : β → Nat → α → List En) (hc : X.calm = true) (hN : X.N.Nodup) (hi : XJ X Γ Γ1 tg iter R (fun z => (xs z).map r)) (ok : BlkOk X.N X.env.scope scope own) (hj : ∀ i ∈ js, i ∈ own.map (·.2)) (h0 : ∀ z, wΓ Γ1 own = inv z 0)
    (hΓ : ∀ z i x, wΓ (Γo z i x) own = inv z (i + 1)) (hg : ∀ z i x, R z → (xs z)[i]? = some x → BG X scope tg (inv z i) (r x) (Γi z i x) js) (hl : ∀ z, R z → (xs z).length < sizeLine)
    (he : ∀ z i x, R z → (xs z)[i]? = some x → BYE X scope (Γi z i x) (Γo z i x) elt (s x))
    (hno : ∀ z, ((own.map (·.2)).all fun i => isNo (inv z (xs z).length)[i]?) = true) (hend : ∀ z, R z → Sub (inv z (xs z).length) Γe)
    (hs : ∀ x, foldedSetIterable iter X.env x = pure x := by intro _; rfl) : YFx X Γ Γe (.ListComp elt [⟨tg, iter, [], 0⟩] scope pos) R (fun z => (xs z).map s) := (yc_lc inv Γi Γo hi ok hj h0 hΓ hg hl he hno hend hs).f hc hN
/-- a for over such a thing -/
theorem y_for {β : Type} {R : β → Prop} {xs : β → List α} {body : List Stmt} (inv : β → Nat → List En) (Γ' : β → Nat → α → List En) (hp : PassesOwn (model X.prog X.w) X.A X.env X.xe) (hc : X.calm = true) (hi : XJ X Γ Γ1 tg iter R (fun z => (xs z).map r)) (h0 : ∀ z, R z → Sub Γ1 (inv z 0)) (hg : ∀ z i x, R z → (xs z)[i]? = some x → XG X tg (inv z i) (r x) (Γ' z i x) js)
    (hb : ∀ z i x, R z → (xs z)[i]? = some x → XB X (Γ' z i x) body { nx := some (inv z (i + 1)), ct := some (inv z (i + 1)), bk := some Γe, rt := Ω.rt, ro := Ω.ro }) (hd : ∀ z, R z → Sub (inv z (xs z).length) Γe) (hs : ∀ x, foldedSetIterable iter X.env x = pure x := by intro _; rfl) (hΩ : Ω.nx = some Γe := by rfl) :
    XS X Γ (.For tg iter body [] pos) Ω := by
  obtain ⟨wi, hw, ew⟩ := hi.ex
  refine XS.of (ps_for hp hc hw pg_wp pss_wp hs) fun G σ H F k D m => ew G σ H F k _ fun z rz J G1 H1 F1 s1 k1 walk => ?_
  have hlen : ((xs z).map r).length = (xs z).length := List.length_map ..
  obtain ⟨Ga, Fa, sa, ka⟩ := h0 z rz G1 σ H1 F1 k1
  have s1a := s1.tr sa
  refine ⟨fun i m' σ2 H2 => m' = (xs z).length - i ∧ i ≤ (xs z).length ∧ ∃ G2 F2, Stp G1 H1 F1 G2 H2 F2 ∧ OK (inv z i) G2 σ2 H2 F2, ⟨_, rfl, Nat.zero_le _, Ga, Fa, sa, ka⟩, ?_⟩
  rintro i m' σ2 H2 ⟨rfl, hile, G2, F2, st2, k2⟩
  obtain ⟨go, stop, yld⟩ := walk G2 H2 F2 st2 k2.fit
  by_cases hi' : i < (xs z).length
  · refine .inr ⟨go i (by rw [hlen]; exact hi'), fun σ' H' => ∃ G' F', Stp G1 H1 F1 G' H' F' ∧ OK (inv z (i + 1)) G' σ' H' F', fun σ' H' h' => ⟨(xs z).length - (i + 1), by omega, rfl, hi', h'⟩, fun v H3 y => ?_⟩
    obtain ⟨P, eP, G3, s3, sm, f3, o3, p3⟩ := yld i v H3 y (by rw [hlen]; exact hi')
    have hx : (xs z)[i]? = some (xs z)[i] := List.getElem?_eq_getElem hi'
    have eP' : P = r (xs z)[i] := by
      rw [List.getElem?_map, hx] at eP
      exact (Option.some.inj eP).symm
    subst eP'
    have k3 : OK (inv z i) G3 σ2 H3 F2 := ⟨k2.sl.mono s3.le (fun _ _ _ z => sm _ _ z) fun _ f => f, f3, fun a u f g => o3 a u f (k2.off a u f) g, fun a f => s3.live a (k2.th a f)⟩
    have st3 := st2.tr s3
    refine hg z i _ rz hx G3 σ2 H3 F2 v k3 p3 _ fun Gg σg Hg Fg sg kg _ _ => ?_
    have stg := st3.tr sg
    refine hb z i _ rz hx Gg σg Hg Fg kg _ ⟨fun Γn e G' σ' H' F' s' k' => ?_, fun R Γr e v' G' σ' H' F' s' k' p' => m.rt R Γr e v' G' σ' H' F' (s1.tr (stg.tr s')) k' p', fun Γn e G' σ' H' F' s' k' => ?_, fun Γn e G' σ' H' F' s' k' => ?_, fun E Γr e v' G' σ' H' F' s' k' => m.ro E Γr e v' G' σ' H' F' (s1.tr (stg.tr s')) k'⟩
    · cases e; exact ⟨G', F', stg.tr s', k'⟩
    · cases e; exact m.nx _ hΩ G' σ' H' F' (s1.tr (stg.tr s')) k'
    · cases e; exact ⟨G', F', stg.tr s', k'⟩
  · have e : i = (xs z).length := by omega
    subst e
    obtain ⟨G4, F4, s4, k4⟩ := hd z rz G2 σ2 H2 F2 k2
    exact .inl ⟨stop _ (by rw [hlen]; exact Nat.le_refl _), m.nx _ hΩ G4 σ2 H2 F4 (s1.tr (st2.tr s4)) k4⟩
end
end NS
namespace NS
open PySem L2 PySem.Spec
open PyProof.Rows (AllBare)
/-! ### the end of a law, for defs called where no repr runs -/
/-- the script: a list of ints that is read -/
def ScrAt (K : PySem.W.Frag) (ns : List Int) : As := ⟨fun G v => ∃ a, v = .ref a ∧ ((∃ o, G a (.frz o (.lst (ns.map V.int)))) ∨ ∃ (o : Obj) (its : Array Value) (n : Nat), K.lookup a = some o ∧ o.cls = .type "list" ∧ o.dict = none ∧ o.data = .seq its n ∧ its.size ≤ sizeLine ∧ Vals (ns.map V.int) its.toList),
  fun l ⟨a, e, h⟩ => ⟨a, e, h.imp (fun ⟨o, g⟩ => ⟨o, l _ _ g⟩) id⟩⟩
theorem ScrAt.sq {K : PySem.W.Frag} {ns : List Int} {G : Gh} {H : Hp} {v : V} (h : (ScrAt K ns).p G v) (f : Fit G H) : ∃ a, v = .ref a ∧ SqL K H a (ns.map V.int) := by
  obtain ⟨a, e, h⟩ := h
  refine ⟨a, e, ?_⟩
  rcases h with ⟨o, g⟩ | h
  · rcases f _ _ g with q | ⟨m, _⟩
    · exact .inl (.inr ⟨o, q⟩)
    · exact m.elim
  · exact .inr h
section
variable {P : Program} {w : World} {K : PySem.W.Frag} {mg mb : Str → Option Value} {k : Nat} {fa a : Addr} {fd : FuncData} {x : Str} {s₁ : Shared} {vs : List Value} {ns : List Int}
/-- the law's promise, of the script alone -/
abbrev spLaw (K : PySem.W.Frag) : Sp := spP (ι := List Int) (fun ns => ns.length ≤ 63) (fun ns => [ScrAt K ns]) (fun _ => aB true)
theorem callG (KX : K.In s₁.heap) (hns : s₁.heap.Ns mainGlobals mg) (hb : s₁.heap.Ns builtinsNs mb) (hbb : ∀ x : Str, x ≠ "__name__" → mb x = bootBuiltins x) (hlim : s₁.heap.NoLimit) (hg : s₁.gens = #[])
    (ha : s₁.heap.get? a = some { cls := .type "list", data := .seq vs.toArray }) (hi : PyProof.Rows.IntsAre vs ns) (hl : ns.length ≤ 63) (hr : Room k callerA)
    (F : ∀ base : Heap, K.In base → base.Ns mainGlobals mg → FnG P w K mg base CX0 k fa fd [x] (spLaw K)) (hbind : ∀ (s : Shared) (u : Value), BindsTo s fd ⟨[u], []⟩ [(x, u)]) :
    codeAny (model P w) callerA (.call (.ref fa) ⟨[.ref a], []⟩) (fun r s' => r = .ok (.ret (.bool true)) ∧ OldK s₁.heap s'.heap ∧ s'.os = s₁.os ∧ AllBare s'.gens) s₁ := by
  have hvals := vals_ints hi
  have hvl := hi.length
  have h63 : ns.length ≤ sizeLine := Nat.le_trans hl (by decide)
  -- H: the script alone, if it is no object of the module; G: what is known of it
  have go : ∀ (H : Hp) (G : Gh), (∀ b u, H b = some u → b = a ∧ ∃ o xs, u = .frz o (.lst xs)) → Fit G H → (ScrAt K ns).p G (.ref a) → HOk P w H s₁.heap → (∀ b, H b ≠ none → K.lookup b = none) →
      codeAny (model P w) callerA (.call (.ref fa) ⟨[.ref a], []⟩) (fun r s' => r = .ok (.ret (.bool true)) ∧ OldK s₁.heap s'.heap ∧ s'.os = s₁.os ∧ AllBare s'.gens) s₁ := by
    intro H G hH hfit hscr hok hK
    have free : ∀ {b : Addr} {o : Obj} {es : Array DictEntry} {ep : Nat}, s₁.heap.get? b = some o → o.data = .dict es ep → H b = none := fun {b o es ep} e d => by
      cases q : H b with
      | none => rfl
      | some u =>
        obtain ⟨rfl, _⟩ := hH b u q
        rw [ha] at e
        cases e
        cases d
    have ns_kept : ∀ {b : Addr} {m : Str → Option Value}, s₁.heap.Ns b m → (hidT s₁.heap H).Ns b m := fun {b m} hb => by
      obtain ⟨o, es, ep, e, d, r⟩ := hb
      exact ⟨o, es, ep, hidT_get e (free e d), d, r⟩
    have k_kept : K.In (hidT s₁.heap H) := fun b o e => hidT_get (KX b o e) (by
      cases q : H b with
      | none => rfl
      | some u =>
        have := hK b (by rw [q]; simp)
        rw [this] at e
        cases e)
    obtain ⟨mc, hc1, hc2⟩ := hlim
    have M : Mod K mg (hidT s₁.heap H) := { kin := k_kept, glob := ns_kept hns, blt := ⟨mb, ns_kept hb, hbb⟩, nolimit := ⟨mc, ns_kept hc1, hc2⟩ }
    have E0' : Env0 P w K mg (hidT s₁.heap H) callerA [] s₁ H := { frames := rfl, mod := M, bs := fun b o e => of_hidT e, bsz := Nat.le_of_eq (hidT_size _ _), funs := trivial, frf := (fun b hb => nomatch hb), hok := hok, bare := .of_eq hg }
    have hsp : spLaw K [V.ref a] H (fun v _ => v = .bl true) E0 := ⟨ns, G, hl, hfit, .cons hscr .nil, fun v G' H' _ _ p => p⟩
    refine codeAny_mono ((F _ k_kept (ns_kept hns)).run callerA rfl hr [] s₁ H E0' ⟨[.ref a], []⟩ [.ref a] [.ref a] (hbind s₁ (.ref a)) (.cons rfl .nil) _ E0 hsp) (fun r s' q => ?_)
    match r, q with
    | .error e, q => exact q.elim
    | .ok .next, q => exact q.elim
    | .ok .brk, q => exact q.elim
    | .ok .cont, q => exact q.elim
    | .ok (.ret u), ⟨v, H', os, bare, un, hok', rv, q⟩ =>
      have q' : v = .bl true := q
      subst q'
      obtain rfl : u = Value.bool true := rv
      refine And.intro rfl (And.intro (OldK.of_keep fun b o e => ?_) (And.intro os bare))
      cases hb : H b with
      | none => exact un.keep b o e hb (fun z => nomatch z) (fun z => nomatch z)
      | some u =>
        obtain ⟨rfl, ob, xs, rfl⟩ := hH b u hb
        have f2 := un.frzs _ ob _ hb
        have o1 := (hok _ _ hb).1
        have o2 := (hok' _ _ f2).1
        rw [e] at o1
        cases o1
        exact o2
  cases hk : K.lookup a with
  | some o =>
    have e := KX a o hk
    rw [ha] at e
    cases e
    exact go (fun _ => none) (fun _ _ => False) (fun b u z => nomatch z) (fun _ _ z => z.elim) ⟨a, rfl, .inr ⟨_, vs.toArray, _, hk, rfl, rfl, rfl, by rw [List.size_toArray, hvl]; exact h63, by simpa using hvals⟩⟩ (fun b u z => nomatch z) fun b z => absurd rfl z
  | none =>
    have hin : ∀ b u, (fun b => if b = a then some (HO.frz { cls := .type "list", data := .seq vs.toArray } (.lst (ns.map V.int))) else none) b = some u → b = a ∧ u = .frz { cls := .type "list", data := .seq vs.toArray } (.lst (ns.map V.int)) := fun b u z => by
      by_cases hb : b = a
      · refine ⟨hb, ?_⟩
        simp only [if_pos hb] at z
        exact (Option.some.inj z).symm
      · simp only [if_neg hb] at z
        cases z
    refine go (fun b => if b = a then some (.frz { cls := .type "list", data := .seq vs.toArray } (.lst (ns.map V.int))) else none) (fun b u => b = a ∧ u = .frz { cls := .type "list", data := .seq vs.toArray } (.lst (ns.map V.int))) (fun b u z => ⟨(hin b u z).1, _, _, (hin b u z).2⟩)
      (fun b u z => .inl (by rw [z.1, z.2]; exact if_pos rfl)) ⟨a, rfl, .inl ⟨_, rfl, rfl⟩⟩ (fun b u z => ?_) fun b z => ?_
    · obtain ⟨rfl, rfl⟩ := hin b u z
      exact ⟨ha, by rw [List.length_map]; exact h63, vs, _, hvals, ha⟩
    · by_cases hb : b = a
      · rw [hb]; exact hk
      · exact absurd (if_neg hb) z
end
theorem walkG {l : PySem.W.OpenLaw} {k : Nat} {q : Program} {loose : List Str} {XP : (Str → Option Value) → Heap → Prop} {YP : World → Heap → Prop} {d : DefRec} {K : Params → PySem.W.Frag} {x : Str}
    (hn : l.most = some 63) (hdf : d.params.defaults = []) (hr : Room k callerA) (hY : ∀ (w : World) (h : Heap), YP w h → (K w.params).In h)
    (F : ∀ (w : World) (mg : Str → Option Value) (fa : Addr) (h : Heap), (K w.params).In h → h.Ns mainGlobals mg → mg d.name = some (.ref fa) →
      ∃ fd : FuncData, (∀ (s : Shared) (u : Value), BindsTo s fd ⟨[u], []⟩ [(x, u)]) ∧ ∀ base : Heap, (K w.params).In base → base.Ns mainGlobals mg → FnG l.prog w (K w.params) mg base CX0 k fa fd [x] (spLaw (K w.params))) :
    PySem.W.WalkO q loose XP YP l.row.toRowW d [] (fun f vs => PySem.call f vs) :=
  Att.attach_call hn hdf fun w s₀ s₁ mg mb fa o pm cd doc a vs ns G Y ho hd hcd hmg hobj hints hlen hg => by
    have KX := hY w _ Y
    obtain ⟨fd, hb, hF⟩ := F w mg fa _ KX G.T.g hmg
    exact callG KX G.T.g G.T.b G.T.builtins G.T.nolimit hg hobj hints hlen hr hF hb
/-- from the head's facts: a def by its name -/
theorem defAt {K : PySem.W.Frag} {h : Heap} {mg : Str → Option Value} {x : Str} {st : Stmt} {f : Addr} {od an : Option Addr} {sl : Array (Option Value)} {oc kV dc pm cd ct : Value} (X : K.In h) (G : h.Ns mainGlobals mg) (a : PySem.W.nsIn K mainGlobals x = some (some (.ref f)))
    (l : K.lookup f = some ⟨oc, od, .func (PySem.W.fnOf x x (defArgs st) (defBody st) (defScope st) .none kV dc pm an cd ct), sl⟩) (c : PySem.W.codeIn K cd x = true) (kp : PySem.W.keepIn K (.ref f) = true) : DefAt K mg x st :=
  ⟨f, _, PySem.W.mg_of X G a, fun_mk (st := st) l c kp⟩
end NS
namespace NS
open PySem L2 PySem.Spec
/-! ### the pool that a law draws from -/
/-- three ints: the digits, the seed, how many were mixed (at most m) -/
structure PoolI (m : Nat) (a b c : Int) : Prop where
  a0 : 0 ≤ a
  b0 : 0 ≤ b
  b1 : b < 2 ^ 63
  c0 : 0 ≤ c
  c1 : c ≤ (m : Int)
def oPool (m : Nat) (p : Addr) : Ob where
  at' := fun v H G F => ∃ x : Int × Int × Int, PoolI m x.1 x.2.1 x.2.2 ∧ (oLat p [aI x.1, aI x.2.1, aI x.2.2]).at' v H G F
  stab := fun ⟨x, h, ho⟩ hk hg => ⟨x, h, (oLat p _).stab ho hk hg⟩
theorem oPool_pin {m : Nat} {p : Addr} {v : V} {H : Hp} {G : Gh} {F : Addr → Prop} (h : (oPool m p).at' v H G F) : v = .ref p := by
  obtain ⟨x, _, q, vs, e, hp, _⟩ := h
  rw [e, hp p rfl]
theorem oPool_mono {m n : Nat} {p : Addr} (l : m ≤ n) : EnLe (.mu (oPool m p)) (.mu (oPool n p)) := fun v H G F ⟨x, h, ho⟩ => ⟨x, ⟨h.a0, h.b0, h.b1, h.c0, by have := h.c1; omega⟩, ho⟩
/-- ** of great ints -/
def CPowW (i j : Int) : Prop := 0 ≤ j ∧ (Builtin.Int.intBits i : Int) * j ≤ 2 ^ 27
section
variable {X : Cx} {Γ : List En} {a b : Expr} {pos : Pos} {i j : Int}
theorem op_powW : OpR X (binaryOp .Pow) (rI CPowW fun i j => .int (i ^ j.toNat)) := opI fun i j t u s Q E hc q => PyProof.Rows.pow_int hc.1 hc.2 q
theorem x_powW (ha : XE X Γ a (aI i)) (hb : XE X Γ b (aI j)) (h : CPowW i j) : XE X Γ (.BinOp a .Pow b pos) (aI (i ^ j.toNat)) := x_op op_powW ha hb (ro_I h fun _ => rfl)
end
theorem powW_of {i j : Int} {n : Nat} (h0 : 0 ≤ j) (hn : 0 < n) (hi : i.natAbs < 2 ^ n) (hj : j * n ≤ 2 ^ 27) : CPowW i j := by
  refine ⟨h0, ?_⟩
  have l := PySem.Flt.log2_lt_of hn hi
  have b : Builtin.Int.intBits i ≤ n := by
    unfold Builtin.Int.intBits
    split <;> omega
  have h1 : (Builtin.Int.intBits i : Int) * j ≤ (n : Int) * j := Int.mul_le_mul_of_nonneg_right (by omega) h0
  have h2 : (n : Int) * j = j * n := Int.mul_comm _ _
  omega
/-- how the text of a draw stands: pool, its bound by name, two more names -/
abbrev drawPre : (Nat × Int) → Prop := fun i => 1 ≤ i.2 ∧ i.2 < 2 ^ 8000 ∧ i.1 ≤ 2 ^ 60
abbrev spDraw : Sp := spM (ι := Nat × Int) (fun i p => oPool i.1 p) (fun i p => oPool (i.1 + 1) p) drawPre (fun i => [aI i.2]) (fun i => aIs fun r => 0 ≤ r ∧ r < i.2)
end NS
namespace NS
open PySem L2 PySem.Spec
/-! ### what is fresh and owned -/
def EvO (te : TE) (Γ Γ' : List En) (O : Ob) : Prop := ∀ (G : Gh) (σ : L2.St) (H : Hp) (F : Addr → Prop), OK Γ G σ H F → ∀ Q : VK, (∀ v G' H' F', Stp G H F G' H' F' → OK (.mu O :: Γ') G' (some v :: σ) H' F' → Q v H') → te σ H Q
abbrev YO (X : Cx) (Γ Γ' : List En) (e : Expr) (O : Ob) : Prop := EvO (wpE X e) Γ Γ' O
abbrev XOw (X : Cx) (Γ : List En) (e : Expr) (O : Ob) : Prop := YO X Γ Γ e O
theorem YO.of {X : Cx} {e : Expr} {Γ Γ' : List En} {O : Ob} {t : TE} (h : PE X e t) (ev : EvO t Γ Γ' O) : YO X Γ Γ' e O := fun G σ H F k Q q => fun pins s I => h.run pins s σ H Q I (ev G σ H F k Q q)
theorem OK.head {Γ : List En} {G : Gh} {σ : L2.St} {H : Hp} {F : Addr → Prop} {O : Ob} {v : V} (k : OK (.mu O :: Γ) G (some v :: σ) H F) : ∃ F1 F2, O.at' v H G F1 ∧ OK Γ G σ H F2 ∧ (∀ a, F1 a → F2 a → False) ∧ ∀ a, F1 a ∨ F2 a → F a := by
  obtain ⟨w, r, F1, F2, e, ho, hs, hd, hf⟩ := k.sl
  cases e
  exact ⟨F1, F2, ho, ⟨hs, k.fit, fun a u f => k.off a u (hf a (.inr f)), fun a f => k.th a (hf a (.inr f))⟩, hd, hf⟩
theorem OK.cons {Γ : List En} {G : Gh} {σ : L2.St} {H : Hp} {F F1 : Addr → Prop} {O : Ob} {v : V} (k : OK Γ G σ H F) (ho : O.at' v H G F1) (hd : ∀ a, F1 a → ¬ F a) (hg : ∀ a u, F1 a → ¬ G a u) (ht : ∀ a, F1 a → H a ≠ none) : OK (.mu O :: Γ) G (some v :: σ) H (fun a => F a ∨ F1 a) :=
  ⟨⟨v, σ, F1, F, rfl, ho, k.sl, fun a x y => hd a x y, fun a z => z.symm⟩, k.fit, fun a u z => z.elim (k.off a u) (hg a u), fun a z => z.elim (k.th a) (ht a)⟩
theorem OK.tail {Γ : List En} {G : Gh} {σ : L2.St} {H : Hp} {F : Addr → Prop} {E : En} {v : V} (k : OK (E :: Γ) G (some v :: σ) H F) : OK Γ G σ H F := by
  cases E with
  | no => obtain ⟨o, r, e, h⟩ := k.sl; cases e; exact ⟨h, k.fit, k.off, k.th⟩
  | im A => obtain ⟨o, r, e, _, h⟩ := k.sl; cases e; exact ⟨h, k.fit, k.off, k.th⟩
  | mu O =>
    obtain ⟨o, r, F1, F2, e, _, h, _, hs⟩ := k.sl
    cases e
    exact ⟨h.mono .rfl' (fun _ _ _ e => e) fun a f => hs a (.inr f), k.fit, k.off, k.th⟩
section
variable {X : Cx} {Γ Γ1 Γ2 : List En} {e a b : Expr} {st : Stmt} {Ω : Po} {P A B : As} {Ps : List As} {O : Ob} {pos pos' : Pos} {π : Option Addr}
theorem xo_f (h : XF X Γ e Ps) : XOw X Γ e (oL Ps) := fun G σ H F k Q q => h G σ H F k Q fun p vs G' H' F' s k' hp hl no nf ha =>
  q _ G' H' (fun a => F' a ∨ a = p) ⟨s.le, s.keep, s.new, fun a z => z.elim (s.grow a) fun y => .inr (y ▸ hp), s.live⟩
    (k'.cons (F1 := fun a => a = p) ⟨p, vs, rfl, (fun _ z => nomatch z), hl, ha, fun _ => Iff.rfl⟩ (fun a z => z ▸ nf) (fun a u z => z ▸ no u) fun a z => by rw [z, hl]; simp)
theorem yo_f (h : YF X Γ Γ1 e Ps) : YO X Γ Γ1 e (oL Ps) := fun G σ H F k Q q => h G σ H F k Q fun p vs G' H' F' s k' hp hl no nf ha =>
  q _ G' H' (fun a => F' a ∨ a = p) ⟨s.le, s.keep, s.new, fun a z => z.elim (s.grow a) fun y => .inr (y ▸ hp), s.live⟩
    (k'.cons (F1 := fun a => a = p) ⟨p, vs, rfl, (fun _ z => nomatch z), hl, ha, fun _ => Iff.rfl⟩ (fun a z => z ▸ nf) (fun a u z => z ▸ no u) fun a z => by rw [z, hl]; simp)
/-- a local, given away -/
theorem xo_var (i : Nat) {x : Str} {px : Pos} (h : Γ[i]? = some (.mu O)) (hN : X.N[i]? = some x := by rfl) (hv : Vis X.env.scope x := by first | exact Or.inl rfl | exact Or.inr (Or.inl rfl) | exact Or.inr (Or.inr rfl))
    (hd : (x == ("__debug__" : Str)) = false := by decide) (hcd : (x == ("__classdict__" : Str)) = false := by decide) : YO X Γ (Γ.set i .no) (.Name x px) O :=
  YO.of (pe_var hN hv hd hcd) fun G σ H F k Q q => by
    obtain ⟨v, F1, hσ, ho, hs, back⟩ := k.sl.own h k.th
    have sl := back ⟨fun _ _ _ F => ∀ a, ¬ F a, fun h _ _ => h⟩ v G H noF .rfl' (fun _ _ _ _ e => e) (fun _ z => z) fun _ z => z.elim
    rw [set_same hσ] at sl
    have sl2 := sl.forget (i := i)
    rw [List.set_set] at sl2
    refine ⟨v, hσ, q v G H F .rfl' ⟨⟨v, σ, F1, fun a => F a ∧ ¬ F1 a, rfl, ho, sl2.mono .rfl' (fun _ _ _ e => e) fun a z => z.elim id fun y => y.elim, fun a x y => y.2 x, fun a z => z.elim (hs a) fun y => y.1⟩, k.fit, k.off, k.th⟩⟩
theorem x_setO (i : Nat) {x : Str} (hN : X.N.Nodup) (he : YO X Γ Γ1 e O) (hi : X.N[i]? = some x := by rfl) (hl : i < Γ1.length := by exact lt_some rfl) (hx : Loc X.env.scope x := by first | exact Or.inl rfl | exact Or.inr rfl) (hs : swapsWith e (some (.Name x pos')) pos.line X.env = pure false := by rfl)
    (hf : X.fn x = true ∨ X.env.scope.names.lookup x = some .local := by first | exact .inl rfl | exact .inr rfl | assumption) (hΩ : Ω.nx = some (Γ1.set i (.mu O)) := by rfl) : XS X Γ (.Assign [.Name x pos'] e pos) Ω :=
  XS.of (ps_set hN hi hx pe_wp hs hf) fun G σ H F k D m => he G σ H F k _ fun v G1 H1 F0 s1 k1 => by
    obtain ⟨F1, F2, ho, k2, hd, hf⟩ := k1.head
    have kk := k2.take hl ho (fun a x y => hd a x y) (fun a u f => k1.off a u (hf a (.inl f))) fun a f => k1.th a (hf a (.inl f))
    refine m.nx _ hΩ G1 _ H1 F0 s1 ⟨kk.sl.mono .rfl' (fun _ _ _ e => e) fun a z => hf a z.symm, k1.fit, k1.off, k1.th⟩
theorem x_retO {E : En} {Γr : List En} (hΩ : Ω.ro = some (E, Γr)) (he : YO X Γ Γ1 e O) (hs : Sub (.mu O :: Γ1) (E :: Γr)) : XS X Γ (.Return (some e) pos) Ω :=
  XS.of (ps_ret pe_wp) fun G σ H F k D m => he G σ H F k _ fun v G1 H1 F1 s1 k1 => by
    obtain ⟨G2, F2, s2, k2⟩ := hs G1 _ H1 F1 k1
    exact m.ro E Γr hΩ v G2 σ H1 F2 (s1.tr s2) k2
/-- kept for good -/
theorem x_ofO (h : YO X Γ Γ1 e O) (hs : Sub (.mu O :: Γ1) (.im P :: Γ1)) : YE X Γ Γ1 e P := fun G σ H F k Q q => h G σ H F k Q fun v G1 H1 F1 s1 k1 => by
  obtain ⟨G2, F2, s2, k2⟩ := hs G1 _ H1 F1 k1
  obtain ⟨w, r, e, p, hsl⟩ := k2.sl
  cases e
  exact q v G2 H1 F2 (s1.tr s2) ⟨hsl, k2.fit, k2.off, k2.th⟩ p
theorem YO.imp {O' : Ob} (h : YO X Γ Γ1 e O) (i : ∀ v H G F, O.at' v H G F → O'.at' v H G F) : YO X Γ Γ1 e O' := fun G σ H F k Q q => h G σ H F k Q fun v G1 H1 F1 s1 k1 => q v G1 H1 F1 s1 (by
  obtain ⟨w, r, Fa, Fb, e, ho, hs, hd, hf⟩ := k1.sl
  exact ⟨⟨w, r, Fa, Fb, e, i _ _ _ _ ho, hs, hd, hf⟩, k1.fit, k1.off, k1.th⟩)
end
/-! ### defs that give what is fresh -/
def spO {ι : Type} (Pre : ι → Prop) (A : ι → List As) (O : ι → Ob) : Sp := fun vs H Q _ => ∃ (i : ι) (G : Gh), Pre i ∧ Fit G H ∧ AllA G vs (A i) ∧ ∀ v G' H' F', Stp G H noF G' H' F' → OK [.mu (O i)] G' [some v] H' F' → Q v H'
section
variable {P : Program} {w : World} {K : PySem.W.Frag} {mg : Str → Option Value} {base : Heap} {x : Str} {st : Stmt} {N ps : List Str} {k : Nat} {ι : Type} {Pre : ι → Prop} {A : ι → List As} {O : ι → Ob}
theorem gf_own (D : DefAt K mg x st) (S : FnScope N ps (defScope st)) (hb : ∀ (kV doc pm : Value) (an : Option Addr) (cdv ct : Value) (us : List Value), us.length = ps.length → bindArgs (PySem.W.fnOf x x (defArgs st) (defBody st) (defScope st) .none kV doc pm an cdv ct) ⟨us, []⟩ = pure (ps.zip us))
    (hA : ∀ i, (A i).length = ps.length)
    (hbody : ∀ (i : ι), Pre i → ∀ (f : Addr) (cdv : Value) (B : Around) (outer : List Env) (s : Shared) (H : Hp) (E : XK), Cxt (CxD CX0 P w K mg base N x (defScope st) f cdv B outer s H E).nox → Room k (CxD CX0 P w K mg base N x (defScope st) f cdv B outer s H E).nox.A →
      XB (CxD CX0 P w K mg base N x (defScope st) f cdv B outer s H E).nox ((A i).map En.im ++ nos (N.length - ps.length)) (defBody st) { ro := some (.mu (O i), nos N.length) }) :
    GF P w K mg base CX0 x st ps (k + 1) (spO Pre A O) := by
  obtain ⟨f, fd, hm, F⟩ := D.ex
  have hl : ∀ vs H Q E, spO Pre A O vs H Q E → vs.length = ps.length := fun vs H Q E ⟨i, G, _, _, h, _⟩ => by rw [h.length, hA]
  refine ⟨⟨f, fd, hm, F, F.binds hb, fnG_of F S hl fun cdv B outer s H vs Q E hg hr hsp => ?_⟩⟩
  obtain ⟨i, G, hp, hfit, hall, hq⟩ := hsp
  have hlen := hall.length
  have k0 : OK ((A i).map En.im ++ nos (N.length - ps.length)) G (L2.start N vs) H noF := by
    refine ⟨?_, hfit, fun _ _ z => z.elim, fun _ z => z.elim⟩
    unfold L2.start
    rw [hlen, hA]
    exact sl_start _ hall
  have go := hbody i hp f cdv B outer s H E ⟨S.nd, rfl, hg⟩ hr G (L2.start N vs) H noF k0 { nx := fun _ H' => Q .non H', rt := Q } ⟨(fun _ e => nomatch e), (fun _ _ e => nomatch e), (fun _ e => nomatch e), (fun _ e => nomatch e), fun R' Γr e v G' σ' H' F' s' k' => by
    cases e
    obtain ⟨F1, F2, ho, k2, hd, hf⟩ := k'.head
    exact hq v G' H' F1 (s'.shrink fun a z => hf a (.inl z)) ⟨⟨v, [], F1, noF, rfl, ho, rfl, fun _ _ z => z.elim, fun a z => z.elim id fun y => y.elim⟩, k'.fit, fun a u z => k'.off a u (hf a (.inl z)), fun a z => k'.th a (hf a (.inl z))⟩⟩
  exact (pss_wp.nox).run
    |> fun r pins s1 I => r pins s1 _ _ _ I go
end
section
variable {X : Cx} {CX : CXT} {Γ : List En} {x : Str} {st : Stmt} {ps ks : List Str} {k : Nat} {ι : Type} {Pre : ι → Prop} {A : ι → List As} {R : ι → As} {O : ι → Ob} {p pos : Pos} {e : Expr} {es : List Expr} {kws : List Keyword} {sp : Sp} {E : XK} {t tk : TA}
theorem go_own {i : ι} {G1 : Gh} {σ : L2.St} {H1 : Hp} {F1 : Addr → Prop} {Q : VK} {G : Gh} {H : Hp} {F : Addr → Prop} {vs : List V} (hp : Pre i) (s1 : Stp G H F G1 H1 F1) (k1 : OK Γ G1 σ H1 F1) (p1 : AllA G1 vs (A i)) (q : ∀ v G' H' F', Stp G H F G' H' F' → OK (.mu (O i) :: Γ) G' (some v :: σ) H' F' → Q v H') : spO Pre A O vs H1 Q E :=
  ⟨i, G1, hp, k1.fit, p1, fun v G2 H2 F2 s2 k2 => by
    obtain ⟨Fa, Fb, ho, k3, hd, hf⟩ := k2.head
    have fresh : ∀ a, Fa a → H1 a = none := fun a z => (s2.grow a (hf a (.inl z))).elim (fun y => y.elim) id
    have s2' : Stp G1 H1 F1 G2 H2 (fun a => F1 a ∨ Fa a) := ⟨s2.le, fun a u _ => s2.keep a u id, fun a u g => (s2.new a u g).imp id fun z => z.imp id fun y => y.elim, fun a z => z.imp id (fresh a), s2.live⟩
    have k1' : OK Γ G2 σ H2 F1 := ⟨k1.sl.mono s2.le (fun a u _ => s2.keep a u id) fun _ f => f, k2.fit, fun a u f g => by
      rcases s2.new a u g with g | g | g
      · exact k1.off a u f g
      · exact k1.th a f g
      · exact g, fun a f => s2.live a (k1.th a f)⟩
    exact q v G2 H2 _ (s1.tr s2') (k1'.cons ho (fun a z y => k1.th a y (fresh a z)) (fun a u z => k2.off a u (hf a (.inl z))) fun a z => k2.th a (hf a (.inl z)))⟩
/-- f(e, ..), fresh -/
theorem xo_call (F : GF X.prog X.w X.K X.mg X.base CX0 x st ps k (spO Pre A O)) (C : Cxt X) (hr : Room k X.A) (i : ι) (hp : Pre i) (ha : XA X Γ (e :: es) (A i)) (hg : Gl X x := by rfl)
    (hdb : (x == ("__debug__" : Str)) = false := by decide) (he : starEach (e :: es) X.env = (false, eval e X.env) :: starEach es X.env := by rfl) (hpl : (backTo pos (starEach es X.env)).any (·.1) = false := by rfl) : XOw X Γ (.Call (.Name x p) (e :: es) [] pos) (O i) :=
  YO.of (pe_g (E := E0) F C.gd hr pass0 pa_wp hg hdb he hpl) fun G σ H F k Q q => ha G σ H F k _ fun vs G1 H1 F1 s1 k1 p1 => go_own hp s1 k1 p1 q
/-! ### keywords -/
def wpK (X : Cx) (kws : List Keyword) : TA := fun σ H Q => ∀ pos pins s, Inv X pins σ H s → wpAny (model X.prog X.w) X.A (evalAll ((backToKw pos (keywordEach kws X.env)).map (·.2))) (AP X pins σ Q) X.xe s
theorem pk_wp : PK X kws (wpK X kws) := ⟨fun pos pins s σ H Q I h => h pos pins s I⟩
abbrev XK' (X : Cx) (Γ : List En) (kws : List Keyword) (Ps : List As) : Prop := EA (wpK X kws) Γ Ps
theorem XK'.of {Ps : List As} {ta : TA} (h : PK X kws ta) (ev : EA ta Γ Ps) : XK' X Γ kws Ps := fun G σ H F k Q q => fun pos pins s I => h.run pos pins s σ H Q I (ev G σ H F k Q q)
theorem xk_nil : XK' X Γ [] [] := XK'.of pk_nil fun G σ H F k Q q => q [] G H F .rfl' k .nil
theorem xk_cons {nm : Option Str} {kpos : Pos} {P : As} {Ps : List As} (ha : XE X Γ e P) (hr : XK' X Γ kws Ps) : XK' X Γ (⟨nm, e, kpos⟩ :: kws) (P :: Ps) :=
  XK'.of (pk_cons pe_wp pk_wp) fun G σ H F k Q q => ha G σ H F k _ fun v G1 H1 F1 s1 k1 p1 => hr G1 σ H1 F1 k1 _ fun vs G2 H2 F2 s2 k2 p2 => q _ G2 H2 F2 (s1.tr s2) k2 (.cons (P.up s2.le p1) p2)
theorem run_gk {f : Addr} {fd : FuncData} {pins : List (Addr × Obj)} {σ : L2.St} {H : Hp} {s : Shared} {Q : VK} {us ws : List Value} {vs zs : List V} (F : FnG X.prog X.w X.K X.mg X.base CX k f fd ps sp) (hgd : X.A.guards = some []) (hr : Room k X.A) (hx : Passes CX X E)
    (I : Inv X pins σ H s) (hb : BindsTo s fd ⟨us, ks.zip ws⟩ (ps.zip (us ++ ws))) (r : Vals vs us) (rz : Vals zs ws) (h : sp (vs ++ zs) H Q E) : wpAny (model X.prog X.w) X.A (call (.ref f) us (ks.zip ws)) (EP X pins σ Q) X.xe s := by
  have r2 : Vals (vs ++ zs) (us ++ ws) := by
    clear h hb
    induction r with
    | nil => exact rz
    | cons p t ih => exact .cons p ih
  refine wpAny_call (codeAny_mono (run_g F hgd hr hx I hb r2 h) fun r s' z => ?_)
  match r, z with
  | .error e, z => exact z
  | .ok (.ret u), z => exact z
  | .ok .next, z => exact z
  | .ok .brk, z => exact z
  | .ok .cont, z => exact z
/-- f(k = v, ..), the keywords in the parameters' order -/
theorem pe_gK0 (F : GF X.prog X.w X.K X.mg X.base CX x st ps k sp) (hkb : ∀ (kV doc pm : Value) (an : Option Addr) (cdv ct : Value) (ws : List Value), ws.length = ks.length → bindArgs (PySem.W.fnOf x x (defArgs st) (defBody st) (defScope st) .none kV doc pm an cdv ct) ⟨[], ks.zip ws⟩ = pure (ps.zip ws)) (hl : ks.length = ps.length)
    (hgd : X.A.guards = some []) (hr : Room k X.A) (hx : Passes CX X E) (hk : PK X kws tk) (hg : Gl X x) (hdb : (x == ("__debug__" : Str)) = false) (hall : (backToKw pos (keywordEach kws X.env)).all (·.1.isSome) = true) (hks : (backToKw pos (keywordEach kws X.env)).filterMap (·.1) = ks)
    (hpl : ((backTo pos (starEach [] X.env)).any (·.1) || (backToKw pos (keywordEach kws X.env)).any (·.1.isNone)) = false) :
    PE X (.Call (.Name x p) [] kws pos) (fun σ H Q => tk σ H fun vs H1 => sp vs H1 Q E) := by
  obtain ⟨f, fd, hm, F1, hb, F2⟩ := F.ex
  constructor
  intro pins s σ H Q I h
  refine wpAny_Call_Name_kw (ld_glob I hg hm ?_ hdb)
  refine PySem.W.callWith_KW0 (h₀ := X.base) I.ok.mod.kin F1.kp hall ?_ hpl
  refine thn (hk.run pos pins s σ H _ I h) fun ws s2 ⟨zs, H2, I2, rz, q2⟩ => ⟨I2.kIn, ?_⟩
  rw [hks]
  have hlw : ws.length = ks.length := by rw [← rz.length, F2.len _ _ _ _ q2, hl]
  obtain ⟨oc, od, kV, doc, pm, an, cdv, ct, osl, rfl, lk, hcd⟩ := F1.ex
  exact run_gk (us := []) (vs := []) F2 hgd hr hx I2 (BindsTo.of_eq (hkb kV doc pm an cdv ct ws hlw)) .nil rz q2
theorem x_callK0 (F : GF X.prog X.w X.K X.mg X.base CX0 x st ps k (spP Pre A R)) (C : Cxt X) (hr : Room k X.A) (i : ι) (hp : Pre i) (ks : List Str) (hkb : ∀ (kV doc pm : Value) (an : Option Addr) (cdv ct : Value) (ws : List Value), ws.length = ks.length → bindArgs (PySem.W.fnOf x x (defArgs st) (defBody st) (defScope st) .none kV doc pm an cdv ct) ⟨[], ks.zip ws⟩ = pure (ps.zip ws)) (ha : XK' X Γ kws (A i)) (hl : ks.length = ps.length := by rfl) (hg : Gl X x := by rfl)
    (hdb : (x == ("__debug__" : Str)) = false := by decide) (hall : (backToKw pos (keywordEach kws X.env)).all (·.1.isSome) = true := by rfl) (hks : (backToKw pos (keywordEach kws X.env)).filterMap (·.1) = ks := by rfl)
    (hpl : ((backTo pos (starEach [] X.env)).any (·.1) || (backToKw pos (keywordEach kws X.env)).any (·.1.isNone)) = false := by rfl) : XE X Γ (.Call (.Name x p) [] kws pos) (R i) :=
  XE.of (pe_gK0 (E := E0) F hkb hl C.gd hr pass0 pk_wp hg hdb hall hks hpl) fun G σ H F k Q q => ha G σ H F k _ fun vs G1 H1 F1 s1 k1 p1 => ⟨i, G1, hp, k1.fit, p1, fun v G2 H2 s2 f2 p2 => by
    have s2' : Stp G1 H1 F1 G2 H2 F1 := ⟨s2.le, fun a u _ => s2.keep a u id, fun a u g => (s2.new a u g).imp id fun z => z.imp id fun y => y.elim, fun _ f => .inl f, s2.live⟩
    refine q v G2 H2 F1 (s1.tr s2') ⟨k1.sl.mono s2.le (fun a u _ => s2.keep a u id) fun _ f => f, f2, fun a u f g => ?_, fun a f => s2.live a (k1.th a f)⟩ p2
    rcases s2.new a u g with g | g | g
    · exact k1.off a u f g
    · exact k1.th a f g
    · exact g⟩
theorem xo_callK0 (F : GF X.prog X.w X.K X.mg X.base CX0 x st ps k (spO Pre A O)) (C : Cxt X) (hr : Room k X.A) (i : ι) (hp : Pre i) (ks : List Str) (hkb : ∀ (kV doc pm : Value) (an : Option Addr) (cdv ct : Value) (ws : List Value), ws.length = ks.length → bindArgs (PySem.W.fnOf x x (defArgs st) (defBody st) (defScope st) .none kV doc pm an cdv ct) ⟨[], ks.zip ws⟩ = pure (ps.zip ws)) (ha : XK' X Γ kws (A i)) (hl : ks.length = ps.length := by rfl) (hg : Gl X x := by rfl)
    (hdb : (x == ("__debug__" : Str)) = false := by decide) (hall : (backToKw pos (keywordEach kws X.env)).all (·.1.isSome) = true := by rfl) (hks : (backToKw pos (keywordEach kws X.env)).filterMap (·.1) = ks := by rfl)
    (hpl : ((backTo pos (starEach [] X.env)).any (·.1) || (backToKw pos (keywordEach kws X.env)).any (·.1.isNone)) = false := by rfl) : XOw X Γ (.Call (.Name x p) [] kws pos) (O i) :=
  YO.of (pe_gK0 (E := E0) F hkb hl C.gd hr pass0 pk_wp hg hdb hall hks hpl) fun G σ H F k Q q => ha G σ H F k _ fun vs G1 H1 F1 s1 k1 p1 => go_own hp s1 k1 p1 q
end
/-! ### a, b = x, y -/
/-- some are fresh and owned -/
def EMs (ta : TA) (Γ Γ' : List En) (es : List En) : Prop := ∀ (G : Gh) (σ : L2.St) (H : Hp) (F : Addr → Prop), OK Γ G σ H F → ∀ Q : List V → Hp → Prop, (∀ vs G' H' F', Stp G H F G' H' F' → OK (es ++ Γ') G' (vs.map some ++ σ) H' F' → vs.length = es.length → Q vs H') → ta σ H Q
section
variable {X : Cx} {Γ Γ1 Γ2 : List En} {e a b : Expr} {es : List Expr} {ens : List En} {Ω : Po} {P A B : As} {Ps : List As} {O : Ob} {pos : Pos}
abbrev XM (X : Cx) (Γ Γ' : List En) (es : List Expr) (ens : List En) : Prop := EMs (wpA X es) Γ Γ' ens
theorem XM.of {ta : TA} (h : PA X es ta) (ev : EMs ta Γ Γ1 ens) : XM X Γ Γ1 es ens := fun G σ H F k Q q => fun pos pins s I => h.run pos pins s σ H Q I (ev G σ H F k Q q)
theorem xm_nil : XM X Γ Γ [] [] := XM.of pa_nil fun G σ H F k Q q => q [] G H F .rfl' k rfl
theorem OK.consI {G : Gh} {σ : L2.St} {H : Hp} {F : Addr → Prop} {v : V} (k : OK Γ G σ H F) (p : A.p G v) : OK (.im A :: Γ) G (some v :: σ) H F := ⟨⟨v, σ, rfl, p, k.sl⟩, k.fit, k.off, k.th⟩
theorem xm_im (ha : YE X Γ Γ1 e P) (hr : XM X Γ1 Γ2 es ens) (hs : starEach (e :: es) X.env = (false, eval e X.env) :: starEach es X.env := by rfl) : XM X Γ Γ2 (e :: es) (.im P :: ens) :=
  XM.of (pa_cons pe_wp pa_wp hs) fun G σ H F k Q q => ha G σ H F k _ fun v G1 H1 F1 s1 k1 p1 => hr G1 σ H1 F1 k1 _ fun vs G2 H2 F2 s2 k2 l2 => q _ G2 H2 F2 (s1.tr s2) (k2.consI (P.up s2.le p1)) (by rw [List.length_cons, l2]; rfl)
theorem xm_ow (ha : YO X Γ Γ1 e O) (hr : XM X Γ1 Γ2 es ens) (hs : starEach (e :: es) X.env = (false, eval e X.env) :: starEach es X.env := by rfl) : XM X Γ Γ2 (e :: es) (.mu O :: ens) :=
  XM.of (pa_cons pe_wp pa_wp hs) fun G σ H F k Q q => ha G σ H F k _ fun v G1 H1 F1 s1 k1 => by
    obtain ⟨Fa, Fb, ho, kb, hd, hf⟩ := k1.head
    refine hr G1 σ H1 Fb kb _ fun vs G2 H2 F2 s2 k2 l2 => ?_
    have ho2 := O.stab ho (fun a u fa e => s2.keep a u (fun fb => hd a fa fb) e) s2.le
    have t1 : ∀ a, Fa a → H1 a ≠ none := fun a f => k1.th a (hf a (.inl f))
    have dis : ∀ a, Fa a → ¬ F2 a := fun a fa f2 => (s2.grow a f2).elim (hd a fa) (t1 a fa)
    refine q _ G2 H2 (fun a => F2 a ∨ Fa a) (s1.tr ⟨s2.le, fun a u nf => s2.keep a u fun fb => nf (hf a (.inr fb)), fun a u g => (s2.new a u g).imp id fun z => z.imp id fun fb => hf a (.inr fb), fun a z => z.elim (fun y => (s2.grow a y).imp (fun fb => hf a (.inr fb)) id) fun fa => .inl (hf a (.inl fa)), s2.live⟩)
      (k2.cons ho2 dis (fun a u fa g => ?_) fun a fa => s2.live a (t1 a fa)) (by rw [List.length_cons, l2]; rfl)
    rcases s2.new a u g with g | g | g
    · exact k1.off a u (hf a (.inl fa)) g
    · exact t1 a fa g
    · exact hd a fa g
/-- into slots -/
theorem OK.put {G : Gh} {σ : L2.St} {H : Hp} {F : Addr → Prop} {E : En} {v : V} (i : Nat) (k : OK (E :: Γ) G (some v :: σ) H F) (hi : i < Γ.length) (hE : E ≠ .no) : OK (Γ.set i E) G (σ.set i (some v)) H F := by
  cases E with
  | no => exact absurd rfl hE
  | im A =>
    obtain ⟨o, r, e, p, h⟩ := k.sl
    cases e
    exact k.tail.set i p
  | mu O =>
    obtain ⟨F1, F2, ho, k2, hd, hf⟩ := k.head
    have kk := k2.take hi ho (fun a x y => hd a x y) (fun a u f => k.off a u (hf a (.inl f))) fun a f => k.th a (hf a (.inl f))
    exact ⟨kk.sl.mono .rfl' (fun _ _ _ e => e) fun a z => hf a z.symm, k.fit, k.off, k.th⟩
theorem x_par (i j : Nat) {x y : Str} {a b : Expr} {E1 E2 : En} {px py pt : Pos} {kt k2 pt2} (hc : X.calm = true) (hN : X.N.Nodup) (h : XM X Γ Γ1 [a, b] [E1, E2]) (n1 : E1 ≠ .no := by exact fun z => nomatch z) (n2 : E2 ≠ .no := by exact fun z => nomatch z) (hi : X.N[i]? = some x := by rfl) (hj : X.N[j]? = some y := by rfl) (hij : i ≠ j := by decide) (li : i < Γ1.length := by exact lt_some rfl) (lj : j < Γ1.length := by exact lt_some rfl)
    (hx : X.env.scope.names.lookup x = some .local := by rfl) (hy : X.env.scope.names.lookup y = some .local := by rfl) (hw : swappedStores [.Tuple [.Name x px, .Name y py] kt pt] (.Tuple [a, b] k2 pt2) X.env = pure (some [x, y]) := by rfl)
    (hs : swapsWithSole [.Tuple [.Name x px, .Name y py] kt pt] (.Tuple [a, b] k2 pt2) pos.line X.env = pure false := by rfl) (hΩ : Ω.nx = some ((Γ1.set i E1).set j E2) := by rfl) :
    XS X Γ (.Assign [.Tuple [.Name x px, .Name y py] kt pt] (.Tuple [a, b] k2 pt2) pos) Ω :=
  XS.of (ps_par hc hN hi hj hij hx hy pa_wp hw hs) fun G σ H F k D m => h G σ H F k _ fun vs G1 H1 F1 s1 k1 l1 => by
    match vs, l1 with
    | [v, w], _ =>
      refine ⟨v, w, rfl, ?_⟩
      -- [E1, E2] ++ Γ1
      have q1 : OK (E2 :: (Γ1.set i E1)) G1 (some w :: (σ.set i (some v))) H1 F1 := OK.put (i + 1) k1 (Nat.succ_lt_succ li) n1
      have q2 := OK.put j q1 (by rw [List.length_set]; exact lj) n2
      exact m.nx _ hΩ G1 _ H1 F1 s1 q2
/-- three at once -/
theorem x_par3 (i j l : Nat) {x y z : Str} {a b c : Expr} {E1 E2 E3 : En} {px py pz pt : Pos} {kt k2 pt2} (hc : X.calm = true) (hN : X.N.Nodup) (h : XM X Γ Γ1 [a, b, c] [E1, E2, E3]) (n1 : E1 ≠ .no := by exact fun z => nomatch z) (n2 : E2 ≠ .no := by exact fun z => nomatch z) (n3 : E3 ≠ .no := by exact fun z => nomatch z) (hi : X.N[i]? = some x := by rfl) (hj : X.N[j]? = some y := by rfl) (hl : X.N[l]? = some z := by rfl) (hij : i ≠ j := by decide) (hil : i ≠ l := by decide) (hjl : j ≠ l := by decide) (li : i < Γ1.length := by exact lt_some rfl) (lj : j < Γ1.length := by exact lt_some rfl) (ll : l < Γ1.length := by exact lt_some rfl)
    (hx : X.env.scope.names.lookup x = some .local := by rfl) (hy : X.env.scope.names.lookup y = some .local := by rfl) (hz : X.env.scope.names.lookup z = some .local := by rfl) (hw : swappedStores [.Tuple [.Name x px, .Name y py, .Name z pz] kt pt] (.Tuple [a, b, c] k2 pt2) X.env = pure (some [x, y, z]) := by rfl)
    (hs : swapsWithSole [.Tuple [.Name x px, .Name y py, .Name z pz] kt pt] (.Tuple [a, b, c] k2 pt2) pos.line X.env = pure false := by rfl) (hΩ : Ω.nx = some (((Γ1.set i E1).set j E2).set l E3) := by rfl) :
    XS X Γ (.Assign [.Tuple [.Name x px, .Name y py, .Name z pz] kt pt] (.Tuple [a, b, c] k2 pt2) pos) Ω :=
  XS.of (ps_par3 hc hN hi hj hl hij hil hjl hx hy hz pa_wp hw hs) fun G σ H F k D m => h G σ H F k _ fun vs G1 H1 F1 s1 k1 l1 => by
    match vs, l1 with
    | [v, w, u], _ =>
      refine ⟨v, w, u, rfl, ?_⟩
      have q1 : OK (E2 :: E3 :: (Γ1.set i E1)) G1 (some w :: some u :: (σ.set i (some v))) H1 F1 := OK.put (i + 2) k1 (Nat.succ_lt_succ (Nat.succ_lt_succ li)) n1
      have q2 : OK (E3 :: ((Γ1.set i E1).set j E2)) G1 (some u :: ((σ.set i (some v)).set j (some w))) H1 F1 := OK.put (j + 1) q1 (by rw [List.length_cons, List.length_set]; exact Nat.succ_lt_succ lj) n2
      have q3 := OK.put l q2 (by rw [List.length_set, List.length_set]; exact ll) n3
      exact m.nx _ hΩ G1 _ H1 F1 s1 q3
end
/-! ### lending: an owned thing is read by what only reads -/
def Lend (O : Ob) (A : As) : Prop := ∀ v H G F, O.at' v H G F → ∃ D : Gh, (∀ a u, D a u → F a ∧ H a = some u) ∧ A.p (fun a u => G a u ∨ D a u) v
theorem lend_L {π : Option Addr} {Ps : List As} : Lend (oLq π Ps) (aL Ps) := fun v H G F ⟨p, vs, e, _, hl, ha, hf⟩ => ⟨fun a u => a = p ∧ u = .lst vs, fun a u ⟨z, y⟩ => ⟨(hf a).mpr z, by rw [z, y]; exact hl⟩, p, vs, e, .inr ⟨rfl, rfl⟩, ha.up fun _ _ g => .inl g⟩
inductive BLe : En → En → Prop
  | no {E : En} : BLe E .no
  | im {A : As} : BLe (.im A) (.im A)
  | mu {O : Ob} {A : As} : Lend O A → BLe (.mu O) (.im A)
inductive BLs : List En → List En → Prop
  | nil : BLs [] []
  | cons {E E' : En} {Γ Γ' : List En} : BLe E E' → BLs Γ Γ' → BLs (E :: Γ) (E' :: Γ')
theorem Sl.noF' {Γ : List En} {G G' : Gh} {σ : L2.St} {H : Hp} (h : Sl Γ G σ H noF) (l : G.le G') : Sl Γ G' σ H noF := h.mono l (fun _ _ _ e => e) fun _ f => f
theorem BLs.sl : ∀ {Γ Γ' : List En} {G : Gh} {σ : L2.St} {H : Hp} {F : Addr → Prop}, BLs Γ Γ' → Sl Γ G σ H F → ∃ D : Gh, (∀ a u, D a u → F a ∧ H a = some u) ∧ Sl Γ' (fun a u => G a u ∨ D a u) σ H noF
  | _, _, G, _, _, _, .nil, h => ⟨fun _ _ => False, fun _ _ z => z.elim, h⟩
  | .no :: _, _, G, _, _, _, .cons .no t, ⟨o, r, e, h⟩ => by
    obtain ⟨D, hD, hs⟩ := t.sl h
    exact ⟨D, hD, o, r, e, hs⟩
  | .im _ :: _, _, G, _, _, _, .cons .no t, ⟨o, r, e, _, h⟩ => by
    obtain ⟨D, hD, hs⟩ := t.sl h
    exact ⟨D, hD, _, r, e, hs⟩
  | .mu _ :: _, _, G, _, _, _, .cons .no t, ⟨o, r, F1, F2, e, _, h, _, hf⟩ => by
    obtain ⟨D, hD, hs⟩ := t.sl h
    exact ⟨D, fun a u d => ⟨hf a (.inr (hD a u d).1), (hD a u d).2⟩, _, r, e, hs⟩
  | .im _ :: _, _, G, _, _, _, .cons .im t, ⟨o, r, e, p, h⟩ => by
    obtain ⟨D, hD, hs⟩ := t.sl h
    exact ⟨D, hD, o, r, e, As.up _ (fun _ _ g => .inl g) p, hs⟩
  | .mu _ :: _, _, G, _, _, _, .cons (.mu le) t, ⟨o, r, F1, F2, e, p, h, _, hf⟩ => by
    obtain ⟨D, hD, hs⟩ := t.sl h
    obtain ⟨D1, hD1, p1⟩ := le _ _ _ _ p
    refine ⟨fun a u => D1 a u ∨ D a u, fun a u d => d.elim (fun d => ⟨hf a (.inl (hD1 a u d).1), (hD1 a u d).2⟩) fun d => ⟨hf a (.inr (hD a u d).1), (hD a u d).2⟩, o, r, e, As.up _ (fun a u g => g.imp id .inl) p1, hs.noF' fun a u g => g.imp id .inr⟩
/-- does not speak of the heap -/
def Pur (P : As) : Prop := ∀ G G' v, P.p G v → P.p G' v
theorem pur_I {i : Int} : Pur (aI i) := fun _ _ _ h => h
theorem pur_B {i : Bool} : Pur (aB i) := fun _ _ _ h => h
theorem pur_S {i : Str} : Pur (aS i) := fun _ _ _ h => h
theorem lend_run {Γ Γb : List En} (b : BLs Γ Γb) {G : Gh} {σ : L2.St} {H : Hp} {F : Addr → Prop} (k : OK Γ G σ H F) : ∃ G1, OK Γb G1 σ H noF ∧ ∀ G2 H2 F2, Stp G1 H noF G2 H2 F2 → OK Γb G2 σ H2 F2 → Stp G H F (fun a u => G2 a u ∧ ¬ F a) H2 F ∧ OK Γ (fun a u => G2 a u ∧ ¬ F a) σ H2 F := by
  obtain ⟨D, hD, hs⟩ := b.sl k.sl
  refine ⟨_, ⟨hs, fun a u g => g.elim (k.fit a u) fun d => .inl (hD a u d).2, fun _ _ z => z.elim, fun _ z => z.elim⟩, fun G2 H2 F2 s2 k2 => ?_⟩
  have le : G.le fun a u => G2 a u ∧ ¬ F a := fun a u g => ⟨s2.le a u (.inl g), fun f => k.off a u f g⟩
  refine ⟨⟨le, fun a u _ => s2.keep a u id, fun a u g => ?_, fun _ f => .inl f, s2.live⟩, ⟨k.sl.mono le (fun a u _ => s2.keep a u id) fun _ f => f, fun a u g => k2.fit a u g.1, fun a u f g => g.2 f, fun a f => s2.live a (k.th a f)⟩⟩
  rcases s2.new a u g.1 with z | z | z
  · exact z.elim .inl fun d => absurd (hD a u d).1 g.2
  · exact .inr (.inl z)
  · exact z.elim
section
variable {X : Cx} {Γ Γb : List En} {e : Expr} {P : As} {Ps : List As} {k : Bool}
theorem x_lend (b : BLs Γ Γb) (pu : Pur P) (h : XE X Γb e P) : XE X Γ e P := fun G σ H F o Q q => by
  obtain ⟨G1, k1, back⟩ := lend_run b o
  refine h G1 σ H noF k1 Q fun v G2 H2 F2 s2 k2 p2 => ?_
  obtain ⟨s3, k3⟩ := back G2 H2 F2 s2 k2
  exact q v _ H2 F s3 k3 (pu _ _ _ p2)
theorem xt_lend (b : BLs Γ Γb) (h : XT X Γb e k) : XT X Γ e k := fun G σ H F o Q q => by
  obtain ⟨G1, k1, back⟩ := lend_run b o
  refine h G1 σ H noF k1 Q fun G2 H2 F2 s2 k2 => ?_
  obtain ⟨s3, k3⟩ := back G2 H2 F2 s2 k2
  exact q _ H2 F s3 k3
theorem xw_lend (b : BLs Γ Γb) (h : XW X Γb e k) : XW X Γ e k := fun G σ H F o Q q => by
  obtain ⟨G1, k1, back⟩ := lend_run b o
  refine h G1 σ H noF k1 Q fun G2 H2 F2 s2 k2 => ?_
  obtain ⟨s3, k3⟩ := back G2 H2 F2 s2 k2
  exact q _ H2 F s3 k3
theorem allA_pur {G G' : Gh} : ∀ {vs : List V} {Ps : List As}, (∀ P ∈ Ps, Pur P) → AllA G vs Ps → AllA G' vs Ps
  | _, _, _, .nil => .nil
  | _, _, h, .cons p t => .cons (h _ List.mem_cons_self _ _ _ p) (allA_pur (fun P m => h P (List.mem_cons_of_mem _ m)) t)
theorem xf_lend (b : BLs Γ Γb) (pu : ∀ P ∈ Ps, Pur P) (h : XF X Γb e Ps) : XF X Γ e Ps := fun G σ H F o Q q => by
  obtain ⟨G1, k1, back⟩ := lend_run b o
  refine h G1 σ H noF k1 Q fun p vs G2 H2 F2 s2 k2 hp hl no nf ha => ?_
  obtain ⟨s3, k3⟩ := back G2 H2 F2 s2 k2
  exact q p vs _ H2 F s3 k3 hp hl (fun u g => no u g.1) (fun f => o.th p f hp) (allA_pur pu ha)
end
end NS
namespace NS
open PySem L2 PySem.Spec
theorem Sl.own2 : ∀ {Γ : List En} {G : Gh} {σ : L2.St} {H : Hp} {F : Addr → Prop} {i : Nat} {O : Ob}, Sl Γ G σ H F → Γ[i]? = some (.mu O) →
    ∃ v F1, σ[i]? = some (some v) ∧ O.at' v H G F1 ∧ (∀ a, F1 a → F a) ∧
      ∀ (O' : Ob) (v' : V) (G' : Gh) (H' : Hp) (F1' : Addr → Prop), G.le G' → (∀ a u, F a → ¬ F1 a → H a = some u → H' a = some u) → O'.at' v' H' G' F1' → (∀ a, F1' a → F1 a ∨ ¬ F a) →
        Sl (Γ.set i (.mu O')) G' (σ.set i (some v')) H' (fun a => (F a ∧ ¬ F1 a) ∨ F1' a)
  | [], _, _, _, _, _, _, _, e => by simp at e
  | .no :: Γ, _, _, _, _, 0, _, _, e => by simp at e
  | .im A :: Γ, _, _, _, _, 0, _, _, e => by simp at e
  | .mu O :: Γ, G, _, H, F, 0, O2, ⟨v, r, F1, F2, e1, ho, h, hd, hs⟩, e => by
    have e' : O = O2 := by simpa using e
    subst e' e1
    refine ⟨v, F1, rfl, ho, fun a f => hs a (.inl f), fun O' v' G' H' F1' hg hk ho' hf => ⟨v', r, F1', F2, rfl, ho', h.mono hg (fun a u f2 eu => hk a u (hs a (.inr f2)) (fun f1 => hd a f1 f2) eu) fun _ f => f, fun a f1 f2 => ?_, fun a f => ?_⟩⟩
    · rcases hf a f1 with z | z
      · exact hd a z f2
      · exact z (hs a (.inr f2))
    · rcases f with f | f
      · exact .inr f
      · exact .inl ⟨hs a (.inr f), fun f1 => hd a f1 f⟩
  | .no :: Γ, G, _, H, F, i + 1, O2, ⟨o, r, e1, h⟩, e => by
    subst e1
    obtain ⟨v, F1, q1, q2, q3, q4⟩ := Sl.own2 h (i := i) (by simpa using e)
    exact ⟨v, F1, by simpa using q1, q2, q3, fun O' v' G' H' F1' hg hk ho' hf => ⟨o, _, rfl, q4 O' v' G' H' F1' hg hk ho' hf⟩⟩
  | .im A :: Γ, G, _, H, F, i + 1, O2, ⟨o, r, e1, ha, h⟩, e => by
    subst e1
    obtain ⟨v, F1, q1, q2, q3, q4⟩ := Sl.own2 h (i := i) (by simpa using e)
    exact ⟨v, F1, by simpa using q1, q2, q3, fun O' v' G' H' F1' hg hk ho' hf => ⟨o, _, rfl, A.up hg ha, q4 O' v' G' H' F1' hg hk ho' hf⟩⟩
  | .mu O :: Γ, G, _, H, F, i + 1, O2, ⟨o, r, Fa, Fb, e1, ho, h, hd, hs⟩, e => by
    subst e1
    obtain ⟨v, F1, q1, q2, q3, q4⟩ := Sl.own2 h (i := i) (by simpa using e)
    refine ⟨v, F1, by simpa using q1, q2, fun a f => hs a (.inr (q3 a f)), fun O' v' G' H' F1' hg hk ho' hf => ⟨o, _, Fa, _, rfl, O.stab ho (fun a u fa eu => hk a u (hs a (.inl fa)) (fun f1 => hd a fa (q3 a f1)) eu) hg,
      q4 O' v' G' H' F1' hg (fun a u fb nf eu => hk a u (hs a (.inr fb)) nf eu) ho' (fun a z => (hf a z).imp id fun y fb => y (hs a (.inr fb))), fun a fa fb => ?_, fun a f => ?_⟩⟩
    · rcases fb with ⟨fb, _⟩ | fb
      · exact hd a fa fb
      · rcases hf a fb with z | z
        · exact hd a fa (q3 a z)
        · exact z (hs a (.inl fa))
    · rcases f with f | ⟨f, nf⟩ | f
      · exact .inl ⟨hs a (.inl f), fun f1 => hd a f (q3 a f1)⟩
      · exact .inl ⟨hs a (.inr f), nf⟩
      · exact .inr f
/-- the owned thing at slot i is replaced, in place -/
theorem own_swap {Γ : List En} {G : Gh} {σ : L2.St} {H H' : Hp} {F F1 F1' : Addr → Prop} {i : Nat} {O' : Ob} {v : V} (k : OK Γ G σ H F) (hs : ∀ a, F1 a → F a)
    (back : ∀ (O' : Ob) (v' : V) (G' : Gh) (H' : Hp) (F1' : Addr → Prop), G.le G' → (∀ a u, F a → ¬ F1 a → H a = some u → H' a = some u) → O'.at' v' H' G' F1' → (∀ a, F1' a → F1 a ∨ ¬ F a) → Sl (Γ.set i (.mu O')) G' (σ.set i (some v')) H' (fun a => (F a ∧ ¬ F1 a) ∨ F1' a))
    (hσ : σ[i]? = some (some v)) (keep : ∀ a u, ¬ F1 a → H a = some u → H' a = some u) (ho : O'.at' v H' G F1') (hf : ∀ a, F1' a → F1 a ∨ (¬ F a ∧ ∀ u, ¬ G a u)) (live : ∀ a, H a ≠ none → H' a ≠ none) (l2 : ∀ a, F1' a → H a ≠ none) :
    OK (Γ.set i (.mu O')) G σ H' (fun a => (F a ∧ ¬ F1 a) ∨ F1' a) ∧ (∀ a, H a ≠ none → H' a ≠ none) ∧ ∀ a u, ¬ F1 a → H a = some u → H' a = some u := by
  have sl := back O' v G H' F1' .rfl' (fun a u _ nf e => keep a u nf e) ho fun a z => (hf a z).imp id fun y => y.1
  rw [set_same hσ] at sl
  refine ⟨⟨sl, fun a u g => ?_, fun a u z g => ?_, fun a z => ?_⟩, live, keep⟩
  · have nf : ¬ F1 a := fun f => k.off a u (hs a f) g
    rcases k.fit a u g with e | ⟨d, o, e⟩
    · exact .inl (keep a u nf e)
    · exact .inr ⟨d, o, keep a _ nf e⟩
  · rcases z with ⟨z, _⟩ | z
    · exact k.off a u z g
    · rcases hf a z with y | y
      · exact k.off a u (hs a y) g
      · exact y.2 u g
  · rcases z with ⟨z, _⟩ | z
    · exact live a (k.th a z)
    · exact live a (l2 a z)
/-! ### an owned list of owned lists -/
abbrev NLs (H : Hp) (G : Gh) : List Addr → List (List As) → Prop := Paired fun q Ps => ∃ vs, H q = some (.lst vs) ∧ AllA G vs Ps
theorem NLs.keep {H H' : Hp} {G G' : Gh} (l : G.le G') : ∀ {qs : List Addr} {Pss : List (List As)}, NLs H G qs Pss → (∀ q ∈ qs, ∀ u, H q = some u → H' q = some u) → NLs H' G' qs Pss
  | _, _, .nil, _ => .nil
  | _, _, .cons ⟨vs, e1, e2⟩ t, h => .cons ⟨vs, h _ List.mem_cons_self _ e1, e2.up l⟩ (NLs.keep l t fun q m => h q (List.mem_cons_of_mem _ m))
def oLL (π : Option (Addr × List Addr)) (Pss : List (List As)) : Ob where
  at' := fun v H G F => ∃ p qs, v = .ref p ∧ (∀ x, π = some x → x = (p, qs)) ∧ H p = some (.lst (qs.map V.ref)) ∧ NLs H G qs Pss ∧ (p :: qs).Nodup ∧ ∀ b, F b ↔ b ∈ p :: qs
  stab := fun {v H H' G G' F} ⟨p, qs, e, hp, hl, hn, nd, hf⟩ hk hg => ⟨p, qs, e, hp, hk _ _ ((hf p).mpr List.mem_cons_self) hl, by
    have hin : ∀ q ∈ qs, F q := fun q m => (hf q).mpr (List.mem_cons_of_mem _ m)
    exact NLs.keep hg hn fun q m u => hk q u (hin q m), nd, hf⟩
theorem oLL_nil {v : V} {H : Hp} {G : Gh} {F : Addr → Prop} (h : (oL []).at' v H G F) : (oLL none []).at' v H G F := by
  obtain ⟨p, vs, e, _, hl, ha, hf⟩ := h
  cases ha
  exact ⟨p, [], e, (fun _ z => nomatch z), hl, .nil, by simp, fun b => by rw [hf]; simp⟩
theorem NLs.get {H : Hp} {G : Gh} : ∀ {qs : List Addr} {Pss : List (List As)} {m : Nat} {q : Addr}, NLs H G qs Pss → qs[m]? = some q → ∃ Ps vs, Pss[m]? = some Ps ∧ H q = some (.lst vs) ∧ AllA G vs Ps
  | _, _, m, _, .nil, e => by simp at e
  | _, _, 0, _, .cons h t, e => by
    obtain ⟨vs, e1, e2⟩ := h
    have : _ = _ := Option.some.inj e
    subst this
    exact ⟨_, vs, rfl, e1, e2⟩
  | _, _, m + 1, _, .cons h t, e => by
    obtain ⟨Ps, vs, e1, e2, e3⟩ := NLs.get t (m := m) (by simpa using e)
    exact ⟨Ps, vs, by simpa using e1, e2, e3⟩
theorem NLs.set {H : Hp} {G : Gh} : ∀ {qs : List Addr} {Pss : List (List As)} {m : Nat} {q : Addr} {vs : List V} {Ps : List As}, NLs H G qs Pss → qs.Nodup → qs[m]? = some q → AllA G vs Ps → NLs (upd H q (.lst vs)) G qs (Pss.set m Ps)
  | _, _, m, _, _, _, .nil, _, e, _ => by simp at e
  | q' :: qs, _, 0, _, vs, _, .cons h t, nd, e, a => by
    have e' : q' = _ := Option.some.inj e
    subst e'
    rw [List.nodup_cons] at nd
    exact .cons ⟨vs, upd_same, a⟩ (NLs.keep .rfl' t fun q m u eu => by rw [upd_ne (fun z : q = q' => nd.1 (z ▸ m))]; exact eu)
  | q' :: qs, _, m + 1, q, vs, _, .cons ⟨ws, e1, e2⟩ t, nd, e, a => by
    rw [List.nodup_cons] at nd
    have e' : qs[m]? = some q := by simpa using e
    have hm : q ∈ qs := List.mem_of_getElem? e'
    exact .cons ⟨ws, by rw [upd_ne (fun z : q' = q => nd.1 (z ▸ hm))]; exact e1, e2⟩ (NLs.set t nd.2 e' a)
theorem NLs.snoc {H : Hp} {G : Gh} {q : Addr} {Ps : List As} (h2 : ∃ vs, H q = some (.lst vs) ∧ AllA G vs Ps) : ∀ {qs : List Addr} {Pss : List (List As)}, NLs H G qs Pss → NLs H G (qs ++ [q]) (Pss ++ [Ps])
  | _, _, .nil => .cons h2 .nil
  | _, _, .cons h t => .cons h (NLs.snoc h2 t)
theorem NLs.len {H : Hp} {G : Gh} : ∀ {qs : List Addr} {Pss : List (List As)}, NLs H G qs Pss → qs.length = Pss.length
  | _, _, .nil => rfl
  | _, _, .cons _ t => congrArg (· + 1) (NLs.len t)
theorem NLs.all {H : Hp} {G : Gh} {G' : Gh} (l : G.le G') : ∀ {qs : List Addr} {Pss : List (List As)}, NLs H G qs Pss → (∀ q ∈ qs, ∀ vs, H q = some (.lst vs) → G' q (.lst vs)) → AllA G' (qs.map V.ref) (Pss.map aL)
  | _, _, .nil, _ => .nil
  | _, _, .cons ⟨vs, e1, e2⟩ t, h => .cons ⟨_, vs, rfl, h _ List.mem_cons_self _ e1, e2.up l⟩ (NLs.all l t fun q m => h q (List.mem_cons_of_mem _ m))
/-- the list at p, its items at qs -/
def aLLp (p : Addr) (qs : List Addr) (Pss : List (List As)) : As := ⟨fun G v => v = .ref p ∧ G p (.lst (qs.map V.ref)) ∧ AllA G (qs.map V.ref) (Pss.map aL), fun l ⟨e, g, h⟩ => ⟨e, l _ _ g, h.up l⟩⟩
/-- this value -/
def aV (w : V) : As := ⟨fun _ v => v = w, fun _ h => h⟩
theorem pur_V {w : V} : Pur (aV w) := fun _ _ _ h => h
theorem lend_LL {π : Option (Addr × List Addr)} {Pss : List (List As)} : Lend (oLL π Pss) (aL (Pss.map aL)) := fun v H G F ⟨p, qs, e, _, hl, hn, nd, hf⟩ =>
  ⟨fun a u => F a ∧ H a = some u, fun a u d => d, p, _, e, .inr ⟨(hf p).mpr List.mem_cons_self, hl⟩, hn.all (fun _ _ g => .inl g) fun q m vs e1 => .inr ⟨(hf q).mpr (List.mem_cons_of_mem _ m), e1⟩⟩
theorem lend_LLp {p : Addr} {qs : List Addr} {Pss : List (List As)} : Lend (oLL (some (p, qs)) Pss) (aLLp p qs Pss) := fun v H G F ⟨p', qs', e, hp, hl, hn, nd, hf⟩ => by
  have e2 := hp _ rfl
  cases e2
  exact ⟨fun a u => F a ∧ H a = some u, fun a u d => d, e, .inr ⟨(hf p).mpr List.mem_cons_self, hl⟩, hn.all (fun _ _ g => .inl g) fun q m vs e1 => .inr ⟨(hf q).mpr (List.mem_cons_of_mem _ m), e1⟩⟩
section
variable {X : Cx} {Γ Γ1 Γe : List En} {e a b tg : Expr} {st : Stmt} {Ω : Po} {P A B : As} {Ps : List As} {Pss : List (List As)} {O : Ob} {pos pos' : Pos} {π : Option (Addr × List Addr)} {p : Addr} {qs : List Addr} {js : List Nat} {body : List Stmt}
/-- an item of the list whose addresses are known -/
theorem Sub.pick {q : Addr} {m : Nat} (i j : Nat) (hi : Γ[i]? = some (.im (aLLp p qs Pss))) (hj : Γ[j]? = some (.im (aV (.ref q)))) (hq : qs[m]? = some q) (hP : Pss[m]? = some Ps) : Sub Γ (Γ.set j (.im (aL Ps))) := fun G σ H F k => by
  obtain ⟨v, e1, e2, g, h⟩ := k.sl.get hi
  obtain ⟨w, e3, e4⟩ := k.sl.get hj
  have e4 : w = .ref q := e4
  subst e4
  obtain ⟨v2, e5, p2⟩ := h.get (P := aL Ps) (i := m) (by rw [List.getElem?_map, hP]; rfl)
  rw [List.getElem?_map, hq] at e5
  cases e5
  have kk := k.set (A := aL Ps) j p2
  rw [set_same e3] at kk
  exact ⟨G, F, .rfl', kk⟩
theorem EVs.sub {te : TE} {Γ' : List En} (s : Sub Γ Γ1) (h : EVs te Γ1 Γ' P) : EVs te Γ Γ' P := fun G σ H F k Q q => by
  obtain ⟨G1, F1, s1, k1⟩ := s G σ H F k
  exact h G1 σ H F1 k1 Q fun v G2 H2 F2 s2 k2 p2 => q v G2 H2 F2 (s1.tr s2) k2 p2
/-- what is picked for this alone -/
theorem lend_pick {Γb : List En} {q : Addr} {m : Nat} {k : Bool} (b : BLs Γ Γb) (i j : Nat) (hi : Γb[i]? = some (.im (aLLp p qs Pss))) (hj : Γb[j]? = some (.im (aV (.ref q)))) (hq : qs[m]? = some q) (hP : Pss[m]? = some Ps) (h : XT X (Γb.set j (.im (aL Ps))) e k) : XT X Γ e k := fun G σ H F o Q q' => by
  obtain ⟨G1, k1, back⟩ := lend_run b o
  obtain ⟨v, e1, e2, g, hall⟩ := k1.sl.get hi
  obtain ⟨w, e3, e4⟩ := k1.sl.get hj
  have e4 : w = .ref q := e4
  subst e4
  obtain ⟨v2, e5, p2⟩ := hall.get (P := aL Ps) (i := m) (by rw [List.getElem?_map, hP]; rfl)
  rw [List.getElem?_map, hq] at e5
  cases e5
  have kk := k1.set (A := aL Ps) j p2
  rw [set_same e3] at kk
  refine h G1 σ H noF kk Q fun G2 H2 F2 s2 k2 => ?_
  have k2' := k2.set (A := aV (.ref q)) (v := .ref q) j rfl
  rw [set_same e3, List.set_set, set_same hj] at k2'
  obtain ⟨s3, k3⟩ := back G2 H2 F2 s2 k2'
  exact q' _ H2 F s3 k3
/-- x.append(fresh list), x a list of owned lists -/
theorem x_appendN (i : Nat) {x : Str} {apos cpos : Pos} {px : Pos} (h : Γ[i]? = some (.mu (oLL none Pss))) (he : XF X Γ e Ps) (hl : Pss.length < sizeLine) (hN : X.N[i]? = some x := by rfl) (hv : Vis X.env.scope x := by first | exact Or.inl rfl | exact Or.inr (Or.inl rfl) | exact Or.inr (Or.inr rfl))
    (hd : (x == ("__debug__" : Str)) = false := by decide) (hcd : (x == ("__classdict__" : Str)) = false := by decide) (hbase : attributeBase (.Name x px) "append" X.env (eval (.Name x px) X.env) = eval (.Name x px) X.env := by rfl)
    (hfew : ((backTo cpos (starEach [e] X.env)).all (fun x => !x.1) && (backToKw cpos (keywordEach [] X.env)).all (fun x => x.1.isSome) && decide ([e].length + ([] : List Keyword).length + (if ([] : List Keyword).isEmpty then 0 else 1) < 30)) = true := by rfl)
    (hline : (apos.endLine == cpos.line) = true := by rfl) (hst : starEach [e] X.env = [(false, eval e X.env)] := by rfl) (hs : swapsWith (.Call (.Attribute (.Name x px) "append" apos) [e] [] cpos) none pos.line X.env = pure false := by rfl) (hΩ : Ω.nx = some (Γ.set i (.mu (oLL none (Pss ++ [Ps])))) := by rfl) :
    XS X Γ (.Expr (.Call (.Attribute (.Name x px) "append" apos) [e] [] cpos) pos) Ω :=
  XS.of (ps_expr (pe_bm PySem.F.plainAttrs_list PySem.F.slot_list_append PySem.F.type_list_append mt_append (pe_var hN hv hd hcd) (pa_cons pe_wp pa_nil hst) hbase hfew hline hst (by first | rfl | (rw [show starEach ([] : List Expr) X.env = [] from rfl]; rfl))) hs) fun G σ H F k D m => by
    obtain ⟨v, F0, hσ, ⟨p, qs, ev, _, hl1, _⟩, _⟩ := k.sl.own h k.th
    subst ev
    refine ⟨_, hσ, .inl ⟨rfl, _, SqL.of hl1⟩, he G σ H F k _ fun r ws G1 H1 F1 s1 k1 hr hlr no nf ha => ?_⟩
    obtain ⟨v2, F2, hσ2, ⟨p2, qs2, e2, _, hl2, hn2, nd2, hf2⟩, hs2, back⟩ := k1.sl.own2 h
    subst e2
    rw [hσ] at hσ2
    cases hσ2
    have rp : r ≠ p := fun z => nf (hs2 r (by rw [z]; exact (hf2 p).mpr List.mem_cons_self))
    have rq : r ∉ qs2 := fun m => nf (hs2 r ((hf2 r).mpr (List.mem_cons_of_mem _ m)))
    have pq : p ∉ qs2 := (List.nodup_cons.mp nd2).1
    have e1 : (qs2.map V.ref ++ [V.ref r]) = (qs2 ++ [r]).map V.ref := by rw [List.map_append]; rfl
    refine ⟨p, qs2.map V.ref, _, rfl, rfl, hl2, by rw [List.length_map, hn2.len]; exact hl, ?_⟩
    show D.nx σ (upd H1 p (.lst (qs2.map V.ref ++ [V.ref r])))
    rw [e1]
    have hFp : F1 p := hs2 p ((hf2 p).mpr List.mem_cons_self)
    obtain ⟨k3, live, keep⟩ := own_swap (O' := oLL none (Pss ++ [Ps])) (F1' := fun a => F2 a ∨ a = r) (H' := upd H1 p (.lst ((qs2 ++ [r]).map V.ref))) k1 hs2 back hσ (fun a u nf' e => by rw [upd_ne (fun z : a = p => nf' (by rw [z]; exact (hf2 p).mpr List.mem_cons_self))]; exact e)
      ⟨p, qs2 ++ [r], rfl, (fun _ z => nomatch z), upd_same, NLs.snoc ⟨ws, by rw [upd_ne rp]; exact hlr, ha⟩ (NLs.keep .rfl' hn2 fun q mq u eu => by rw [upd_ne (fun z : q = p => pq (z ▸ mq))]; exact eu), by
        rw [List.nodup_cons] at nd2 ⊢
        refine ⟨fun z => ?_, ?_⟩
        · rcases List.mem_append.mp z with z | z
          · exact nd2.1 z
          · exact rp (List.mem_singleton.mp z).symm
        · rw [List.nodup_append]
          exact ⟨nd2.2, by simp, fun a ma b mb => by rw [List.mem_singleton.mp mb]; exact fun z => rq (z ▸ ma)⟩, fun b => by
        show F2 b ∨ b = r ↔ _
        rw [hf2]
        simp only [List.mem_cons, List.mem_append, List.not_mem_nil, or_false]
        constructor
        · rintro ((z | z) | z) <;> simp [z]
        · rintro (z | z | z) <;> simp [z]⟩
      (fun a z => z.imp id fun y => by subst y; exact ⟨nf, no⟩) (fun a n => by
        by_cases z : a = p
        · rw [z, upd_same]; simp
        · rw [upd_ne z]; exact n) (fun a z => z.elim (fun y => k1.th a (hs2 a y)) fun y => by rw [y, hlr]; simp)
    refine m.nx _ hΩ G1 σ _ _ ⟨s1.le, fun a u nfa e => ?_, s1.new, fun a z => ?_, fun a n => live a (s1.live a n)⟩ k3
    · refine keep a u (fun z => ?_) (s1.keep a u nfa e)
      rcases s1.grow a (hs2 a z) with y | y
      · exact nfa y
      · rw [y] at e; cases e
    · rcases z with ⟨z, _⟩ | z | z
      · exact s1.grow a z
      · exact s1.grow a (hs2 a z)
      · rw [z]; exact .inr hr
/-- y.append(e), y a pinned item of the owned slot i -/
theorem x_appendI (i j : Nat) {q : Addr} {n : Nat} {y : Str} {apos cpos : Pos} {px : Pos} (h : Γ[i]? = some (.mu (oLL (some (p, qs)) Pss))) (hj : Γ[j]? = some (.im (aV (.ref q)))) (hq : qs[n]? = some q) (hP : Pss[n]? = some Ps) (he : XE X Γ e P) (hl : Ps.length < sizeLine) (hN : X.N[j]? = some y := by rfl) (hv : Vis X.env.scope y := by first | exact Or.inl rfl | exact Or.inr (Or.inl rfl) | exact Or.inr (Or.inr rfl))
    (hd : (y == ("__debug__" : Str)) = false := by decide) (hcd : (y == ("__classdict__" : Str)) = false := by decide) (hbase : attributeBase (.Name y px) "append" X.env (eval (.Name y px) X.env) = eval (.Name y px) X.env := by rfl)
    (hfew : ((backTo cpos (starEach [e] X.env)).all (fun x => !x.1) && (backToKw cpos (keywordEach [] X.env)).all (fun x => x.1.isSome) && decide ([e].length + ([] : List Keyword).length + (if ([] : List Keyword).isEmpty then 0 else 1) < 30)) = true := by rfl)
    (hline : (apos.endLine == cpos.line) = true := by rfl) (hst : starEach [e] X.env = [(false, eval e X.env)] := by rfl) (hs : swapsWith (.Call (.Attribute (.Name y px) "append" apos) [e] [] cpos) none pos.line X.env = pure false := by rfl) (hΩ : Ω.nx = some (Γ.set i (.mu (oLL (some (p, qs)) (Pss.set n (Ps ++ [P]))))) := by rfl) :
    XS X Γ (.Expr (.Call (.Attribute (.Name y px) "append" apos) [e] [] cpos) pos) Ω :=
  XS.of (ps_expr (pe_bm PySem.F.plainAttrs_list PySem.F.slot_list_append PySem.F.type_list_append mt_append (pe_var hN hv hd hcd) (pa_cons pe_wp pa_nil hst) hbase hfew hline hst (by first | rfl | (rw [show starEach ([] : List Expr) X.env = [] from rfl]; rfl))) hs) fun G σ H F k D m => by
    obtain ⟨w, e3, e4⟩ := k.sl.get hj
    have e4 : w = .ref q := e4
    subst e4
    obtain ⟨v, F0, hσ, ⟨p0, qs0, ev, ep, hl1, hn1, _⟩, _⟩ := k.sl.own h k.th
    have ep' := ep _ rfl
    cases ep'
    obtain ⟨Ps', vs0, e5, e6, e7⟩ := hn1.get hq
    refine ⟨_, e3, .inl ⟨rfl, _, SqL.of e6⟩, he G σ H F k _ fun r G1 H1 F1 s1 k1 p1 => ?_⟩
    obtain ⟨v2, F2, hσ2, ⟨p2, qs2, e2, ep2, hl2, hn2, nd2, hf2⟩, hs2, back⟩ := k1.sl.own2 h
    have ep2' := ep2 _ rfl
    cases ep2'
    subst e2
    obtain ⟨Ps2, vs2, e8, e9, e10⟩ := hn2.get hq
    rw [hP] at e8
    cases e8
    have hm : q ∈ qs := List.mem_of_getElem? hq
    have Fq : F2 q := (hf2 q).mpr (List.mem_cons_of_mem _ hm)
    have pq : p ≠ q := fun z => (List.nodup_cons.mp nd2).1 (z ▸ hm)
    refine ⟨q, vs2, _, rfl, rfl, e9, by rw [e10.length]; exact hl, ?_⟩
    obtain ⟨k3, live, keep⟩ := own_swap (O' := oLL (some (p, qs)) (Pss.set n (Ps ++ [P]))) (F1' := F2) (H' := upd H1 q (.lst (vs2 ++ [r]))) k1 hs2 back hσ2 (fun a u nf' e => by rw [upd_ne (fun z : a = q => nf' (z ▸ Fq))]; exact e)
      ⟨p, qs, rfl, (fun _ z => (Option.some.inj z).symm), by rw [upd_ne pq]; exact hl2, hn2.set (List.nodup_cons.mp nd2).2 hq (e10.append (.cons p1 .nil)), nd2, hf2⟩
      (fun a z => .inl z) (fun a n => by
        by_cases z : a = q
        · rw [z, upd_same]; simp
        · rw [upd_ne z]; exact n) (fun a z => k1.th a (hs2 a z))
    refine m.nx _ hΩ G1 σ _ _ ⟨s1.le, fun a u nfa e => ?_, s1.new, fun a z => ?_, fun a n => live a (s1.live a n)⟩ k3
    · refine keep a u (fun z => ?_) (s1.keep a u nfa e)
      rcases s1.grow a (hs2 a z) with y | y
      · exact nfa y
      · rw [y] at e; cases e
    · rcases z with ⟨z, _⟩ | z
      · exact s1.grow a z
      · exact s1.grow a (hs2 a z)
/-- for .. in x, x's list standing where it stands -/
theorem x_forP {O : Ob} {q0 : Addr} {vs : List V} (l : Nat) {x : Str} {px : Pos} (inv : Nat → List En) (Γ' : Nat → V → List En) (hp : PassesOwn (model X.prog X.w) X.A X.env X.xe) (hc : X.calm = true) (h : Γ[l]? = some (.mu O)) (hO : ∀ v H G F, O.at' v H G F → v = .ref q0 ∧ H q0 = some (.lst vs))
    (hinv : ∀ i, ∃ O', (inv i)[l]? = some (.mu O') ∧ ∀ v H G F, Ob.at' O' v H G F → H q0 = some (.lst vs)) (h0 : Sub Γ (inv 0)) (hg : ∀ i x, vs[i]? = some x → XG X tg (inv i) (aV x) (Γ' i x) js)
    (hb : ∀ i x, vs[i]? = some x → XB X (Γ' i x) body { nx := some (inv (i + 1)), ct := some (inv (i + 1)), bk := some Γe, rt := Ω.rt, ro := Ω.ro }) (hd : Sub (inv vs.length) Γe) (hN : X.N[l]? = some x := by rfl) (hv : Vis X.env.scope x := by first | exact Or.inl rfl | exact Or.inr (Or.inl rfl) | exact Or.inr (Or.inr rfl))
    (hdx : (x == ("__debug__" : Str)) = false := by decide) (hcd : (x == ("__classdict__" : Str)) = false := by decide) (hs : ∀ y, foldedSetIterable (.Name x px) X.env y = pure y := by intro _; rfl) (hΩ : Ω.nx = some Γe := by rfl) :
    XS X Γ (.For tg (.Name x px) body [] pos) Ω := by
  refine XS.of (ps_for hp hc (pi_list (pe_var hN hv hdx hcd)) pg_wp pss_wp hs) fun G σ H F k D m => ?_
  obtain ⟨v, F0, hσ, ho, hs0, _⟩ := k.sl.own2 h
  obtain ⟨ev, hl⟩ := hO _ _ _ _ ho
  subst ev
  refine ⟨_, hσ, q0, rfl, ⟨vs, SqL.of hl⟩, ?_⟩
  obtain ⟨Ga, Fa, sa, ka⟩ := h0 G σ H F k
  refine ⟨fun i m' σ2 H2 => m' = vs.length - i ∧ i ≤ vs.length ∧ ∃ G2 F2, Stp G H F G2 H2 F2 ∧ OK (inv i) G2 σ2 H2 F2, ⟨_, rfl, Nat.zero_le _, Ga, Fa, sa, ka⟩, ?_⟩
  rintro i m' σ2 H2 ⟨rfl, hile, G2, F2, st2, k2⟩
  obtain ⟨O', hO', hlO⟩ := hinv i
  obtain ⟨v', F0', hσ', ho', _, _⟩ := k2.sl.own2 hO'
  have hl2 : SqL X.K H2 q0 vs := SqL.of (hlO _ _ _ _ ho')
  by_cases hi' : i < vs.length
  · have hx : vs[i]? = some vs[i] := List.getElem?_eq_getElem hi'
    refine .inr ⟨⟨vs, vs[i], hl2, hx⟩, fun σ' H' => ∃ G' F', Stp G H F G' H' F' ∧ OK (inv (i + 1)) G' σ' H' F', fun σ' H' h' => ⟨vs.length - (i + 1), by omega, rfl, hi', h'⟩, fun v H3 y => ?_⟩
    obtain ⟨e, y⟩ := y
    subst e
    have ev : vs[i] = v := Option.some.inj (hx.symm.trans (y vs hl2))
    refine hg i _ hx G2 σ2 _ F2 v k2 ev.symm _ fun Gg σg Hg Fg sg kg _ _ => ?_
    have stg := st2.tr sg
    refine hb i _ hx Gg σg Hg Fg kg _ ⟨fun Γn e G' σ' H' F' s' k' => ?_, fun R Γr e v' G' σ' H' F' s' k' p' => m.rt R Γr e v' G' σ' H' F' (stg.tr s') k' p', fun Γn e G' σ' H' F' s' k' => ?_, fun Γn e G' σ' H' F' s' k' => ?_, fun E Γr e v' G' σ' H' F' s' k' => m.ro E Γr e v' G' σ' H' F' (stg.tr s') k'⟩
    · cases e; exact ⟨G', F', stg.tr s', k'⟩
    · cases e; exact m.nx _ hΩ G' σ' H' F' (stg.tr s') k'
    · cases e; exact ⟨G', F', stg.tr s', k'⟩
  · have e : i = vs.length := by omega
    subst e
    obtain ⟨G4, F4, s4, k4⟩ := hd G2 σ2 H2 F2 k2
    exact .inl ⟨⟨vs, hl2, Nat.le_refl _⟩, m.nx _ hΩ G4 σ2 H2 F4 (st2.tr s4) k4⟩
/-- a nested list is kept for good -/
theorem Sub.frzN (i : Nat) (h : Γ[i]? = some (.mu (oLL π Pss))) : Sub Γ (Γ.set i (.im (aL (Pss.map aL)))) := fun G σ H F k => by
  obtain ⟨v, F1, hσ, ho, hs, back⟩ := k.sl.own2 h
  have ho' := ho
  obtain ⟨p, qs, e, _, hl, hn, nd, hf⟩ := ho'
  let G' : Gh := fun a u => G a u ∨ (F1 a ∧ H a = some u)
  have le : G.le G' := fun a u g => .inl g
  have sl := back ⟨fun _ _ _ F => ∀ a, ¬ F a, fun h _ _ => h⟩ v G' H noF le (fun _ _ _ _ e => e) (fun _ z => z) fun _ z => z.elim
  rw [set_same hσ] at sl
  have sl2 := sl.set (i := i) (A := aL (Pss.map aL)) (v := v) ⟨p, _, e, .inr ⟨(hf p).mpr List.mem_cons_self, hl⟩, hn.all le fun q m vs e1 => .inr ⟨(hf q).mpr (List.mem_cons_of_mem _ m), e1⟩⟩
  rw [List.set_set, set_same hσ] at sl2
  refine ⟨G', fun a => F a ∧ ¬ F1 a, ⟨le, fun _ _ _ e => e, fun a u g => g.imp id fun y => .inr (hs a y.1), fun a z => .inl z.1, fun _ n => n⟩, ⟨sl2.mono .rfl' (fun _ _ _ e => e) fun a z => z.elim id fun y => y.elim, fun a u g => g.elim (k.fit a u) fun y => .inl y.2, fun a u z g => g.elim (k.off a u z.1) fun y => z.2 y.1, fun a z => k.th a z.1⟩⟩
end
end NS
namespace NS
open PySem L2 PySem.Spec
theorem Cxt.blk {X : Cx} {s : Shared} {H0 : Hp} {scope : Scope} {env : Env} {fp : List Addr} (C : Cxt X) : Cxt (X.blk s H0 scope env fp) := ⟨C.nd, C.cm, C.gd⟩
theorem XC.eq {X : Cx} {Γ : List En} {elt tg iter : Expr} {ifs : List Expr} {scope : Scope} {Ps Qs : List As} (h : XC X Γ elt tg iter ifs scope Ps) (e : Ps = Qs) : XC X Γ elt tg iter ifs scope Qs := e ▸ h
/-! ### slices -/
theorem cutA_from {α : Type} (xs : List α) (n : Nat) : cutA xs (some (n : Int)) none = xs.drop n := by
  unfold cutA
  rw [HT.sIx_nat, HT.sIx_none]
  by_cases h : n ≤ xs.length
  · rw [Nat.min_eq_left h, List.take_of_length_le (by rw [List.length_drop]; exact Nat.le_refl _)]
  · rw [Nat.min_eq_right (by omega), List.drop_of_length_le (Nat.le_refl _), List.drop_of_length_le (by omega), List.take_nil]
theorem cutA_to {α : Type} (xs : List α) (n : Nat) : cutA xs none (some (n : Int)) = xs.take n := by
  unfold cutA
  rw [HT.sIx_nat, HT.sIx_none, List.drop_zero, Nat.sub_zero]
  by_cases h : n ≤ xs.length
  · rw [Nat.min_eq_left h]
  · rw [Nat.min_eq_right (by omega), List.take_of_length_le (Nat.le_refl _), List.take_of_length_le (by omega)]
theorem cutA_last {α : Type} (xs : List α) : cutA xs none (some (-1)) = xs.take (xs.length - 1) := by
  unfold cutA
  rw [HT.sIx_none, List.drop_zero, Nat.sub_zero]
  congr 1
  show (if (-1 : Int) < 0 then ((-1 : Int) + (xs.length : Int)).toNat else min (-1 : Int).toNat xs.length) = _
  rw [if_pos (by decide)]
  omega
theorem EF.eq {te : TE} {Γ : List En} {P P' : List As} (h : EF te Γ P) (e : P = P') : EF te Γ P' := e ▸ h
section
variable {X : Cx} {Γ Γ1 : List En} {a b e : Expr} {α : Type} {xs : List α} {r : α → As} {pos p2 p px : Pos} {i : Int} {k : Nat}
theorem xf_from (n : Nat) (ha : XE X Γ a (aL (xs.map r))) (hb : XE X Γ b (aI i)) (hn : i = n) : XF X Γ (.Subscript a (.Slice (some b) none none p2) pos) ((xs.drop n).map r) :=
  EF.eq (xf_slice ha (xo_some hb) xo_none) (by rw [cutA_map, hn, cutA_from])
theorem xf_to (n : Nat) (ha : XE X Γ a (aL (xs.map r))) (hb : XE X Γ b (aI i)) (hn : i = n) : XF X Γ (.Subscript a (.Slice none (some b) none p2) pos) ((xs.take n).map r) :=
  EF.eq (xf_slice ha xo_none (xo_some hb)) (by rw [cutA_map, hn, cutA_to])
theorem x_fromT (n : Nat) (ha : XE X Γ a (aT (xs.map r))) (hb : XE X Γ b (aI i)) (hn : i = n) : XE X Γ (.Subscript a (.Slice (some b) none none p2) pos) (aT ((xs.drop n).map r)) :=
  (x_sliceT ha (xo_some hb) xo_none).eq (by rw [cutA_map, hn, cutA_from])
theorem x_toT (n : Nat) (ha : XE X Γ a (aT (xs.map r))) (hb : XE X Γ b (aI i)) (hn : i = n) : XE X Γ (.Subscript a (.Slice none (some b) none p2) pos) (aT ((xs.take n).map r)) :=
  (x_sliceT ha xo_none (xo_some hb)).eq (by rw [cutA_map, hn, cutA_to])
theorem x_lenM (hm : X.mg "len" = none) (ha : XE X Γ e (aL (xs.map r))) (hg : Gl X "len" := by rfl) (he : starEach [e] X.env = [(false, eval e X.env)] := by rfl) : XE X Γ (.Call (.Name "len" p) [e] [] pos) (aI xs.length) :=
  (x_lenL (x := "len") hm ha hg he).eq (by rw [List.length_map])
/-! ### == [] -/
theorem eqv_nil {ds : List PyData} : PyData.eqv (.list ds) (.list []) = ds.isEmpty := by
  rw [PyData.eqv]
  cases ds with
  | nil => rw [PyData.eqvAll]; rfl
  | cons d ds => rw [PyData.eqvAll]; rfl
theorem x_nilL : XE X Γ (.List [] pos) (aL (([] : List Int).map aI)) := x_lst xa_nil
variable {f : α → PyData} {n : Nat}
theorem x_eqNil (hr : Room k X.A) (h1 : XE X Γ a (aL (xs.map r))) (hd : ∀ x ∈ xs, IsD (r x) (f x)) (hs : ∀ x ∈ xs, Shp (f x) n) (hn : n ≤ 60 := by decide) : XE X Γ (.Compare a [.Eq] [.List [] p2] pos) (aB xs.isEmpty) :=
  (x_eqD hr h1 (x_lst (Ps := []) xa_nil) (isD_L hd) (isD_Lc .nil) ((shp_L hs).ok (by omega)) ((shp_Lc (n := 0) (fun d m => by simp at m)).ok (by decide))).eqB (by rw [eqv_nil]; cases xs <;> rfl)
theorem xt_eqNil (hr : Room k X.A) (h1 : XE X Γ a (aL (xs.map r))) (hd : ∀ x ∈ xs, IsD (r x) (f x)) (hs : ∀ x ∈ xs, Shp (f x) n) (hn : n ≤ 60 := by decide) : XT X Γ (.Compare a [.Eq] [.List [] p2] pos) xs.isEmpty :=
  (xt_eqD hr h1 (x_lst (Ps := []) xa_nil) (isD_L hd) (isD_Lc .nil) ((shp_L hs).ok (by omega)) ((shp_Lc (n := 0) (fun d m => by simp at m)).ok (by decide))).eq (by rw [eqv_nil]; cases xs <;> rfl)
theorem x_neNil (hr : Room k X.A) (h1 : XE X Γ a (aL (xs.map r))) (hd : ∀ x ∈ xs, IsD (r x) (f x)) (hs : ∀ x ∈ xs, Shp (f x) n) (hn : n ≤ 60 := by decide) : XE X Γ (.Compare a [.NotEq] [.List [] p2] pos) (aB (!xs.isEmpty)) :=
  (x_neD hr h1 (x_lst (Ps := []) xa_nil) (isD_L hd) (isD_Lc .nil) ((shp_L hs).ok (by omega)) ((shp_Lc (n := 0) (fun d m => by simp at m)).ok (by decide))).eqB (by rw [eqv_nil]; cases xs <;> rfl)
theorem xt_neNil (hr : Room k X.A) (h1 : XE X Γ a (aL (xs.map r))) (hd : ∀ x ∈ xs, IsD (r x) (f x)) (hs : ∀ x ∈ xs, Shp (f x) n) (hn : n ≤ 60 := by decide) : XT X Γ (.Compare a [.NotEq] [.List [] p2] pos) (!xs.isEmpty) :=
  (xt_neD hr h1 (x_lst (Ps := []) xa_nil) (isD_L hd) (isD_Lc .nil) ((shp_L hs).ok (by omega)) ((shp_Lc (n := 0) (fun d m => by simp at m)).ok (by decide))).eq (by rw [eqv_nil]; cases xs <;> rfl)
end
/-! ### a def that gives nothing -/
section
variable {P : Program} {w : World} {K : PySem.W.Frag} {mg : Str → Option Value} {base : Heap} {x : Str} {st : Stmt} {N ps : List Str} {k : Nat} {ι : Type} {Pre : ι → Prop} {A : ι → List As} {O : ι → Ob}
theorem gf_non (D : DefAt K mg x st) (S : FnScope N ps (defScope st)) (hb : ∀ (kV doc pm : Value) (an : Option Addr) (cdv ct : Value) (us : List Value), us.length = ps.length → bindArgs (PySem.W.fnOf x x (defArgs st) (defBody st) (defScope st) .none kV doc pm an cdv ct) ⟨us, []⟩ = pure (ps.zip us))
    (hA : ∀ i, (A i).length = ps.length)
    (hbody : ∀ (i : ι), Pre i → ∀ (f : Addr) (cdv : Value) (B : Around) (outer : List Env) (s : Shared) (H : Hp) (E : XK), Cxt (CxD CX0 P w K mg base N x (defScope st) f cdv B outer s H E).nox → Room k (CxD CX0 P w K mg base N x (defScope st) f cdv B outer s H E).nox.A →
      XB (CxD CX0 P w K mg base N x (defScope st) f cdv B outer s H E).nox ((A i).map En.im ++ nos (N.length - ps.length)) (defBody st) { nx := some (nos N.length), rt := some (aN, nos N.length) }) :
    GF P w K mg base CX0 x st ps (k + 1) (spP Pre A fun _ => aN) := by
  obtain ⟨f, fd, hm, F⟩ := D.ex
  have hl : ∀ vs H Q E, spP Pre A (fun _ => aN) vs H Q E → vs.length = ps.length := fun vs H Q E ⟨i, G, _, _, h, _⟩ => by rw [h.length, hA]
  refine ⟨⟨f, fd, hm, F, F.binds hb, fnG_of F S hl fun cdv B outer s H vs Q E hg hr hsp => ?_⟩⟩
  obtain ⟨i, G, hp, hfit, hall, hq⟩ := hsp
  have hlen := hall.length
  have k0 : OK ((A i).map En.im ++ nos (N.length - ps.length)) G (L2.start N vs) H noF := by
    refine ⟨?_, hfit, fun _ _ z => z.elim, fun _ z => z.elim⟩
    unfold L2.start
    rw [hlen, hA]
    exact sl_start _ hall
  have go := hbody i hp f cdv B outer s H E ⟨S.nd, rfl, hg⟩ hr G (L2.start N vs) H noF k0 { nx := fun _ H' => Q .non H', rt := Q } ⟨fun Γn e G' σ' H' F' s' k' => hq .non G' H' (s'.shrink fun _ z => z.elim) k'.fit rfl, fun R' Γr e v G' σ' H' F' s' k' p => by
    cases e
    exact hq v G' H' (s'.shrink fun _ z => z.elim) k'.fit p, (fun _ e => nomatch e), (fun _ e => nomatch e), fun _ _ e => nomatch e⟩
  exact (pss_wp.nox).run
    |> fun r pins s1 I => r pins s1 _ _ _ I go
end
/-! ### the script, the pool -/
section
variable {X : Cx} {Γ : List En} {a b e : Expr} {p pos : Pos} {ns : List Int} {i : Int} {j : Nat}
theorem x_lenS (hm : X.mg "len" = none) (ha : XE X Γ e (ScrAt X.K ns)) (hg : Gl X "len" := by rfl) (he : starEach [e] X.env = [(false, eval e X.env)] := by rfl) : XE X Γ (.Call (.Name "len" p) [e] [] pos) (aI ns.length) :=
  x_callB call_len_seq hm boot_len (xa_cons ha xa_nil he) (fun G σ H F vs k h Q q => by
    cases h with
    | cons h t =>
      cases t
      obtain ⟨a, e, sq⟩ := ScrAt.sq h k.fit
      subst e
      exact ⟨a, ns.map V.int, rfl, .inl sq, q _ G H F .rfl' k (by rw [List.length_map]; rfl)⟩) hg (by decide) (by decide) he
theorem x_ixS {m : Int} (ha : XE X Γ a (ScrAt X.K ns)) (hb : XE X Γ b (aI i)) (hj : ixN ns.length i = some j) (hP : ns[j]? = some m) (hs : PlainIx b := by exact fun _ _ => rfl) : XE X Γ (.Subscript a b pos) (aI m) :=
  XE.of (pe_ix ix_list pe_wp pe_wp hs) fun G σ H F k Q q => ha G σ H F k _ fun x G1 H1 F1 s1 k1 p1 => hb G1 σ H1 F1 k1 _ fun y G2 H2 F2 s2 k2 p2 => by
    obtain ⟨l, rfl, sq⟩ := ScrAt.sq ((ScrAt X.K ns).up s2.le p1) k2.fit
    exact ⟨l, ns.map V.int, i, .int m, rfl, p2, sq, by unfold atI; rw [List.length_map, hj]; show (ns.map V.int)[j]? = _; rw [List.getElem?_map, hP]; rfl, q _ G2 H2 F2 (s1.tr s2) k2 rfl⟩
end
/-- a new pool -/
def oPool0 : Ob where
  at' := fun v H G F => ∃ p, (oPool 0 p).at' v H G F
  stab := fun ⟨p, ho⟩ hk hg => ⟨p, (oPool 0 p).stab ho hk hg⟩
theorem oPool0_of {a b : Int} {v : V} {H : Hp} {G : Gh} {F : Addr → Prop} (a0 : 0 ≤ a) (b0 : 0 ≤ b) (b1 : b < 2 ^ 63) (h : (oL [aI a, aI b, aI 0]).at' v H G F) : oPool0.at' v H G F := by
  obtain ⟨p, vs, e, _, hl, ha, hf⟩ := h
  exact ⟨p, (a, b, 0), ⟨a0, b0, b1, Int.le_refl _, Int.le_refl _⟩, p, vs, e, (fun _ z => Option.some.inj z), hl, ha, hf⟩
section
variable {X : Cx} {Γ Γ1 : List En} {x : Str} {st : Stmt} {ps : List Str} {k : Nat} {ι : Type} {Pre : ι → Prop} {A : ι → List As} {R : ι → As} {p pos : Pos} {es : List Expr}
/-- the same where an argument is one of some -/
theorem y_callMx {O O' : ι → Addr → Ob} {β : Type} (z : β → ι) (S : β → Prop) {Os Os' : Addr → Ob} (F : GF X.prog X.w X.K X.mg X.base CX0 x st ps k (spM O O' Pre A R)) (C : Cxt X) (hr : Room k X.A) (pin : ∀ p v H G F, (Os p).at' v H G F → v = .ref p) (pin' : ∀ p v H G F, (Os' p).at' v H G F → v = .ref p) (j : Nat) {y : Str} {py : Pos} {q : Addr}
    (hO : ∀ b, S b → O (z b) = Os) (hO' : ∀ b, S b → O' (z b) = Os') (hp : ∀ b, S b → Pre (z b)) {Ps : List As} (ha : YA X Γ Γ1 es Ps) (hA : ∀ G vs, AllA G vs Ps → ∃ b, S b ∧ AllA G vs (A (z b))) (hj0 : ∃ O0, Γ[j]? = some (.mu O0) ∧ ∀ v H G F, Ob.at' O0 v H G F → v = .ref q) (hj : Γ1[j]? = some (.mu (Os q))) (hN : X.N[j]? = some y := by rfl)
    (hv : Vis X.env.scope y := by first | exact Or.inl rfl | exact Or.inr (Or.inl rfl) | exact Or.inr (Or.inr rfl)) (hd : (y == ("__debug__" : Str)) = false := by decide) (hcd : (y == ("__classdict__" : Str)) = false := by decide) (hg : Gl X x := by rfl)
    (hdb : (x == ("__debug__" : Str)) = false := by decide) (he : starEach (.Name y py :: es) X.env = (false, eval (.Name y py) X.env) :: starEach es X.env := by rfl) (hpl : (backTo pos (starEach es X.env)).any (·.1) = false := by rfl) : YE X Γ (Γ1.set j (.mu (Os' q))) (.Call (.Name x p) (.Name y py :: es) [] pos) (aEx S fun b => R (z b)) :=
  YE.of (pe_g (E := E0) F C.gd hr pass0 (pa_cons (pe_var hN hv hd hcd) pa_wp he) hg hdb he hpl) fun G σ H F k Q qq => by
    obtain ⟨O0, hj0, pin0⟩ := hj0
    obtain ⟨v, F1, hσ, ho, hs1, _⟩ := k.sl.own hj0 k.th
    have ev := pin0 _ _ _ _ ho
    subst ev
    refine ⟨_, hσ, ha G σ H F k _ fun vs G1 H1 F1' s1 k1 p1 => ?_⟩
    obtain ⟨v2, F2, hσ2, ho2, hs2, back⟩ := k1.sl.own hj k1.th
    have ev2 := pin _ _ _ _ _ ho2
    subst ev2
    obtain ⟨b, sb, p1⟩ := hA _ _ p1
    have hob : (O (z b) q).at' (.ref q) H1 G1 F2 := by rw [hO b sb]; exact ho2
    refine ⟨z b, q, vs, G1, F2, rfl, hp b sb, ⟨⟨_, [], F2, noF, rfl, hob, rfl, fun _ _ z => z.elim, fun a z => z.elim id fun y => y.elim⟩, k1.fit, fun a u f => k1.off a u (hs2 a f), fun a f => k1.th a (hs2 a f)⟩, p1, fun w G3 H3 F3 s3 k3 p3 => ?_⟩
    rw [hO' b sb] at k3
    obtain ⟨v4, r4, F4, F5, e4, ho4, hs4, hd4, hf4⟩ := k3.sl
    have ev4 := pin' _ _ _ _ _ ho4
    subst ev4
    have hF4 : ∀ a, F4 a → F3 a := fun a z => hf4 a (.inl z)
    have grow : ∀ a, F4 a → F2 a ∨ H1 a = none := fun a z => s3.grow a (hF4 a z)
    have sl := back (Os' q) (.ref q) G3 H3 F4 s3.le (fun a u _ nf e => s3.keep a u nf e) ho4 grow
    rw [set_same hσ2] at sl
    refine qq w G3 H3 _ (s1.tr ⟨s3.le, fun a u nf e => s3.keep a u (fun z => nf (hs2 a z)) e, fun a u g => (s3.new a u g).imp id fun z => z.imp id (hs2 a), fun a z => ?_, s3.live⟩) ⟨sl, k3.fit, fun a u z g => ?_, fun a z => ?_⟩ ⟨b, sb, p3⟩
    · rcases z with ⟨z, _⟩ | z
      · exact .inl z
      · exact (grow a z).imp (hs2 a) id
    · rcases z with ⟨z, nz⟩ | z
      · rcases s3.new a u g with g | g | g
        · exact k1.off a u z g
        · exact k1.th a z g
        · exact nz g
      · exact k3.off a u (hF4 a z) g
    · rcases z with ⟨z, nz⟩ | z
      · exact s3.live a (k1.th a z)
      · exact k3.th a (hF4 a z)
end
end NS
namespace NS
open PySem L2 PySem.Spec
/-! ### a, b = x, y by way of a tuple -/
section
variable {X : Cx} {Γ Γ1 : List En} {Ω : Po} {pos : Pos}
theorem x_parT (i j : Nat) {x y : Str} {a b : Expr} {E1 E2 : En} {px py pt : Pos} {kt k2 pt2} (hc : X.calm = true) (hN : X.N.Nodup) (h : XM X Γ Γ1 [a, b] [E1, E2]) (n1 : E1 ≠ .no := by exact fun z => nomatch z) (n2 : E2 ≠ .no := by exact fun z => nomatch z) (hi : X.N[i]? = some x := by rfl) (hj : X.N[j]? = some y := by rfl) (li : (Γ1[i]?).isSome = true := by rfl) (lj : (Γ1[j]?).isSome = true := by rfl)
    (hx : Loc X.env.scope x := by first | exact Or.inl rfl | exact Or.inr rfl) (hy : Loc X.env.scope y := by first | exact Or.inl rfl | exact Or.inr rfl) (hfx : X.fn x = true ∨ X.env.scope.names.lookup x = some .local := by first | exact .inl rfl | exact .inr rfl | assumption) (hfy : X.fn y = true ∨ X.env.scope.names.lookup y = some .local := by first | exact .inl rfl | exact .inr rfl | assumption)
    (hs : swapsWithSole [.Tuple [.Name x px, .Name y py] kt pt] (.Tuple [a, b] k2 pt2) pos.line X.env = pure false := by rfl) (hw : swappedStores [.Tuple [.Name x px, .Name y py] kt pt] (.Tuple [a, b] k2 pt2) X.env = pure none := by rfl)
    (h1 : (assignEach [.Tuple [.Name x px, .Name y py] kt pt] X.env).map (·.2) = [assign (.Tuple [.Name x px, .Name y py] kt pt) X.env] := by rfl) (hn : (assignEach [.Name x px, .Name y py] X.env).length = 2 := by rfl) (hst : (assignEach [.Name x px, .Name y py] X.env).findIdx? (·.1) = none := by rfl)
    (hs1 : (assignEach [.Name x px, .Name y py] X.env).map (·.2) = assign (.Name x px) X.env :: (assignEach [.Name y py] X.env).map (·.2) := by rfl) (hs2 : (assignEach [.Name y py] X.env).map (·.2) = assign (.Name y py) X.env :: (assignEach [] X.env).map (·.2) := by rfl) (hΩ : Ω.nx = some ((Γ1.set i E1).set j E2) := by rfl) :
    XS X Γ (.Assign [.Tuple [.Name x px, .Name y py] kt pt] (.Tuple [a, b] k2 pt2) pos) Ω :=
  XS.of (ps_asg (pe_tup pa_wp) (pg_tup (n := 2) hc (pgs_cons (pg_name hN hi hx hfx) (pgs_cons (pg_name hN hj hy hfy) pgs_nil hs2) hs1) hn hst) hs hw h1) fun G σ H F k D m => h G σ H F k _ fun vs G1 H1 F1 s1 k1 l1 => by
    have li' : i < Γ1.length := by
      rcases Nat.lt_or_ge i Γ1.length with z | z
      · exact z
      · rw [List.getElem?_eq_none z] at li; cases li
    have lj' : j < Γ1.length := by
      rcases Nat.lt_or_ge j Γ1.length with z | z
      · exact z
      · rw [List.getElem?_eq_none z] at lj; cases lj
    match vs, l1 with
    | [v, w], _ =>
      refine ⟨by show 2 ≤ sizeLine; decide, fun p hp => ?_⟩
      have k2 := k1.same (same_new (o := .tup [v, w]) hp)
      have s2 : Stp G H F G1 (upd H1 p (.tup [v, w])) F1 := s1.tr (.same (same_new hp))
      refine ⟨p, [v, w], rfl, .inl (.inl upd_same), rfl, v, [w], rfl, w, [], rfl, rfl, ?_⟩
      have q1 : OK (E2 :: (Γ1.set i E1)) G1 (some w :: (σ.set i (some v))) _ F1 := OK.put (i + 1) k2 (Nat.succ_lt_succ li') n1
      have q2 := OK.put j q1 (by rw [List.length_set]; exact lj') n2
      exact m.nx _ hΩ G1 _ _ F1 s2 q2
end
end NS
namespace K54
open PySem L2 PySem.Spec NS
def topS (i : Nat) : Stmt := PySem.Challenge.pw_nestsums_k54_fundamental_words.main.body.getD i (.Pass ⟨0, 0, 0, 0⟩)
abbrev s_is_word : Stmt := topS 4
abbrev s_check_word : Stmt := topS 6
abbrev s_is_first : Stmt := topS 7
abbrev s_falling_words : Stmt := topS 8
abbrev s_is_fundamental : Stmt := topS 9
abbrev s_falling : Stmt := topS 10
abbrev s__law_pool : Stmt := topS 12
abbrev s__law_draw : Stmt := topS 13
abbrev s__law_letters : Stmt := topS 14
abbrev s__law_is_first : Stmt := topS 15
abbrev s__law_all_cuts : Stmt := topS 16
abbrev s__law_is_falling : Stmt := topS 17
abbrev s__law_right : Stmt := topS 18
abbrev s_law : Stmt := topS 19
abbrev n_is_word : List Str := ["word", "letter"]
theorem sc_is_word : FnScope n_is_word ["word"] (defScope s_is_word) := ⟨rfl, rfl, rfl, by decide +kernel, rfl, by decide +kernel, by decide +kernel⟩
abbrev n_check_word : List Str := ["word"]
theorem sc_check_word : FnScope n_check_word ["word"] (defScope s_check_word) := ⟨rfl, rfl, rfl, by decide +kernel, rfl, by decide +kernel, by decide +kernel⟩
abbrev n_is_first : List Str := ["word", "spot"]
theorem sc_is_first : FnScope n_is_first ["word"] (defScope s_is_first) := ⟨rfl, rfl, rfl, by decide +kernel, rfl, by decide +kernel, by decide +kernel⟩
abbrev n_falling_words : List Str := ["word", "found", "left", "size"]
theorem sc_falling_words : FnScope n_falling_words ["word"] (defScope s_falling_words) := ⟨rfl, rfl, rfl, by decide +kernel, rfl, by decide +kernel, by decide +kernel⟩
abbrev n_is_fundamental : List Str := ["word"]
theorem sc_is_fundamental : FnScope n_is_fundamental ["word"] (defScope s_is_fundamental) := ⟨rfl, rfl, rfl, by decide +kernel, rfl, by decide +kernel, by decide +kernel⟩
abbrev n_falling : List Str := ["word"]
theorem sc_falling : FnScope n_falling ["word"] (defScope s_falling) := ⟨rfl, rfl, rfl, by decide +kernel, rfl, by decide +kernel, by decide +kernel⟩
abbrev n__law_pool : List Str := ["script", "spot", "cell"]
theorem sc__law_pool : FnScope n__law_pool ["script", "spot"] (defScope s__law_pool) := ⟨rfl, rfl, rfl, by decide +kernel, rfl, by decide +kernel, by decide +kernel⟩
abbrev n__law_draw : List Str := ["pool", "amount", "drawn", "mixed"]
theorem sc__law_draw : FnScope n__law_draw ["pool", "amount"] (defScope s__law_draw) := ⟨rfl, rfl, rfl, by decide +kernel, rfl, by decide +kernel, by decide +kernel⟩
abbrev n__law_letters : List Str := ["pool", "longest", "great", "turn"]
theorem sc__law_letters : FnScope n__law_letters ["pool", "longest", "great"] (defScope s__law_letters) := ⟨rfl, rfl, rfl, by decide +kernel, rfl, by decide +kernel, by decide +kernel⟩
abbrev n__law_is_first : List Str := ["letters", "ends", "at", "end"]
theorem sc__law_is_first : FnScope n__law_is_first ["letters"] (defScope s__law_is_first) := ⟨rfl, rfl, rfl, by decide +kernel, rfl, by decide +kernel, by decide +kernel⟩
abbrev n__law_all_cuts : List Str := ["letters", "found", "spot", "rest_here"]
theorem sc__law_all_cuts : FnScope n__law_all_cuts ["letters"] (defScope s__law_all_cuts) := ⟨rfl, rfl, rfl, by decide +kernel, rfl, by decide +kernel, by decide +kernel⟩
abbrev n__law_is_falling : List Str := ["lines", "line", "at"]
theorem sc__law_is_falling : FnScope n__law_is_falling ["lines"] (defScope s__law_is_falling) := ⟨rfl, rfl, rfl, by decide +kernel, rfl, by decide +kernel, by decide +kernel⟩
abbrev n__law_right : List Str := ["pool", "letters", "turn", "same", "due", "ways", "lines", "answer", "line"]
theorem sc__law_right : FnScope n__law_right ["pool"] (defScope s__law_right) := ⟨rfl, rfl, rfl, by decide +kernel, rfl, by decide +kernel, by decide +kernel⟩
abbrev n_law : List Str := ["script", "spot", "pool", "turn", "letters", "line"]
theorem sc_law : FnScope n_law ["script"] (defScope s_law) := ⟨rfl, rfl, rfl, by decide +kernel, rfl, by decide +kernel, by decide +kernel⟩
/-- what the top has written -/
structure Txt (K : PySem.W.Frag) (mg : Str → Option Value) : Prop where
  d_is_word : DefAt K mg "is_word" s_is_word
  d_check_word : DefAt K mg "check_word" s_check_word
  d_is_first : DefAt K mg "is_first" s_is_first
  d_falling_words : DefAt K mg "falling_words" s_falling_words
  d_is_fundamental : DefAt K mg "is_fundamental" s_is_fundamental
  d_falling : DefAt K mg "falling" s_falling
  d__law_pool : DefAt K mg "_law_pool" s__law_pool
  d__law_draw : DefAt K mg "_law_draw" s__law_draw
  d__law_letters : DefAt K mg "_law_letters" s__law_letters
  d__law_is_first : DefAt K mg "_law_is_first" s__law_is_first
  d__law_all_cuts : DefAt K mg "_law_all_cuts" s__law_all_cuts
  d__law_is_falling : DefAt K mg "_law_is_falling" s__law_is_falling
  d__law_right : DefAt K mg "_law_right" s__law_right
  d_law : DefAt K mg "law" s_law
  b_ValueError : mg "ValueError" = none
  b_abs : mg "abs" = none
  b_all : mg "all" = none
  b_int : mg "int" = none
  b_len : mg "len" = none
  b_list : mg "list" = none
  b_max : mg "max" = none
  b_min : mg "min" = none
  b_range : mg "range" = none
  b_repr : mg "repr" = none
  b_super : mg "super" = none
end K54
namespace K54
open PySem L2 PySem.Spec NS
section
variable {P : Program} {w : World} {K : PySem.W.Frag} {mg : Str → Option Value} {base : Heap}
theorem natAbs_lt {i : Int} {n : Nat} (h0 : 0 ≤ i) (h : i < 2 ^ n) : i.natAbs < 2 ^ n := by
  have : (i.natAbs : Int) < ((2 ^ n : Nat) : Int) := by
    rw [Int.natCast_pow]
    simpa [Int.natAbs_of_nonneg h0] using h
  exact Int.ofNat_lt.mp this
theorem gf__law_draw (T : Txt K mg) : GF P w K mg base CX0 "_law_draw" s__law_draw ["pool", "amount"] 1 spDraw := by
  refine gf_mut (fun _ _ _ _ _ _ => oPool_pin) T.d__law_draw sc__law_draw (fun _ _ _ _ _ _ us hl => match us, hl with | [_, _], _ => rfl) (fun _ => rfl) fun ⟨m, n⟩ p ⟨h1, h2, h3⟩ f cdv B outer s H E C hr => ?_
  have h1 : (1 : Int) ≤ n := h1
  have h2 : n < 2 ^ 8000 := h2
  have h3 : m ≤ 2 ^ 60 := h3
  refine ES.mu (O := oPool m p) (α := Int × Int × Int) (R := fun x => PoolI m x.1 x.2.1 x.2.2) (O' := fun x : Int × Int × Int => oLat p [aI x.1, aI x.2.1, aI x.2.2]) 0 rfl (fun v H G F h => h) fun ⟨a, b, c⟩ hp => ?_
  obtain ⟨a0, b0, b1, c0, c1⟩ := hp
  simp only at a0 b0 b1 c0 c1
  show XB _ [.mu (oLat p [aI a, aI b, aI c]), .im (aI n), .no, .no] _ { rt := some (aIs fun r => 0 ≤ r ∧ r < n, [.mu (oPool (m + 1) p), .no, .no, .no]) }
  refine x_cons [.mu (oLat p [aI a, aI b, aI c]), .im (aI n), .no, .no] ?_ ?_
  · refine x_ifS (xt_gt (x_ixO 0 rfl x_int rfl rfl) x_int) (fun ha => ?_) (fun _ => xb_nil)
    refine x_cons _ (x_set 2 C.nd (x_mod (x_intI T.b_int (x_ixO 0 rfl x_int rfl rfl)) (x_var 1) (by omega))) ?_
    refine x_cons _ (x_putL 0 rfl (x_fdiv (x_ixO 0 rfl x_int rfl rfl) (x_var 1) (wide_div (by omega) (natAbs_lt (by omega) h2) (by decide) (by decide))) x_int rfl) ?_
    refine x_last (x_ret rfl (x_var 2) (fun G v h => ⟨_, ⟨Int.emod_nonneg _ (by omega), Int.emod_lt_of_pos _ (by omega)⟩, h⟩) (Sub.les (.cons ?_ (.cons .no' (.cons .no' (.cons .no' .nil))))))
    exact fun v H G F h => ⟨(a / n, b, c), ⟨Int.ediv_nonneg a0 (by omega), b0, b1, c0, by show c ≤ ((m + 1 : Nat) : Int); omega⟩, h⟩
  · refine x_cons _ (x_putL 0 rfl (x_add (x_ixO 0 rfl x_int rfl rfl) x_int) x_int rfl) ?_
    refine x_cons _ (x_set 3 C.nd (x_mod (x_intI T.b_int (x_powW (x_add (x_ixO 0 rfl x_int rfl rfl) (x_mul x_int (x_ixO 0 rfl x_int rfl rfl) (.inl (by decide)))) x_int ?_)) x_int (by decide))) ?_
    · refine powW_of (n := 100) (by decide) (by decide) (natAbs_lt (by omega) ?_) (by decide)
      omega
    refine x_cons _ (x_set 3 C.nd (x_mod (x_intI T.b_int (x_powW (x_add (x_var 3) (x_mul x_int (x_ixO 0 rfl x_int rfl rfl) (.inl (by decide)))) x_int ?_)) x_int (by decide))) ?_
    · refine powW_of (n := 200) (by decide) (by decide) (natAbs_lt ?_ ?_) (by decide)
      · have := Int.emod_nonneg ((b + 15485863 * (c + 1)) ^ (3 : Int).toNat) (show (162259276829213363391578010288127 : Int) ≠ 0 by decide)
        omega
      · have := Int.emod_lt_of_pos ((b + 15485863 * (c + 1)) ^ (3 : Int).toNat) (show (0 : Int) < 162259276829213363391578010288127 by decide)
        omega
    refine x_last (x_ret rfl (x_mod (x_intI T.b_int (x_fdiv (x_var 3) x_int (wide_div (b := 30) (by decide) (by decide) (by decide) (by decide)))) (x_var 1) (by omega)) (fun G v h => ⟨_, ⟨Int.emod_nonneg _ (by omega), Int.emod_lt_of_pos _ (by omega)⟩, h⟩) (Sub.les (.cons ?_ (.cons .no' (.cons .no' (.cons .no' .nil))))))
    exact fun v H G F h => ⟨(a, b, c + 1), ⟨a0, b0, b1, by show 0 ≤ c + 1; omega, by show c + 1 ≤ ((m + 1 : Nat) : Int); omega⟩, h⟩
end
end K54
namespace K54
open PySem L2 PySem.Spec NS
/-! ### plain -/
def isFst (w : List Int) : Bool := decide (0 < w.length) && (List.range (w.length - 1)).all fun j => ltI w (w.drop (1 + j))
def mx (l : List Nat) : Nat := l.foldl max 0
def sz (w : List Int) : Nat := mx (((List.range w.length).filter fun j => isFst (w.take (1 + j))).map (1 + ·))
def fall : Nat → List Int → List (List Int)
  | 0, _ => []
  | n + 1, w => if w = [] then [] else w.take (sz w) :: fall n (w.drop (sz w))
theorem foldl_max_ge : ∀ (l : List Nat) (a : Nat), a ≤ l.foldl max a ∧ ∀ x ∈ l, x ≤ l.foldl max a
  | [], a => ⟨Nat.le_refl _, fun x h => by simp at h⟩
  | b :: l, a => by
    obtain ⟨h1, h2⟩ := foldl_max_ge l (max a b)
    refine ⟨Nat.le_trans (Nat.le_max_left _ _) h1, fun x h => ?_⟩
    rcases List.mem_cons.mp h with e | h
    · subst e; exact Nat.le_trans (Nat.le_max_right _ _) h1
    · exact h2 x h
theorem foldl_max_mem : ∀ (l : List Nat) (a : Nat), l.foldl max a = a ∨ l.foldl max a ∈ l
  | [], a => .inl rfl
  | b :: l, a => by
    rcases foldl_max_mem l (max a b) with h | h
    · show l.foldl max (max a b) = a ∨ l.foldl max (max a b) ∈ b :: l
      rw [h]
      rcases Nat.le_total a b with z | z
      · rw [Nat.max_eq_right z]; exact .inr List.mem_cons_self
      · rw [Nat.max_eq_left z]; exact .inl rfl
    · exact .inr (List.mem_cons_of_mem _ h)
theorem isFst_one (a : Int) : isFst [a] = true := rfl
theorem sz_mem {w : List Int} (h : w ≠ []) : sz w ∈ ((List.range w.length).filter fun j => isFst (w.take (1 + j))).map (1 + ·) := by
  have one : 1 ∈ ((List.range w.length).filter fun j => isFst (w.take (1 + j))).map (1 + ·) := by
    refine List.mem_map.mpr ⟨0, List.mem_filter.mpr ⟨List.mem_range.mpr (List.length_pos_iff.mpr h), ?_⟩, rfl⟩
    cases w with
    | nil => exact absurd rfl h
    | cons a w => exact isFst_one a
  have g := (foldl_max_ge _ 0).2 1 one
  rcases foldl_max_mem (((List.range w.length).filter fun j => isFst (w.take (1 + j))).map (1 + ·)) 0 with e | e
  · omega
  · exact e
theorem sz_ge {w : List Int} {x : Nat} (h : x ∈ ((List.range w.length).filter fun j => isFst (w.take (1 + j))).map (1 + ·)) : x ≤ sz w := (foldl_max_ge _ 0).2 x h
theorem sz_pos {w : List Int} (h : w ≠ []) : 1 ≤ sz w := by
  obtain ⟨j, _, e⟩ := List.mem_map.mp (sz_mem h)
  omega
theorem sz_le {w : List Int} (h : w ≠ []) : sz w ≤ w.length := by
  obtain ⟨j, hj, e⟩ := List.mem_map.mp (sz_mem h)
  have := List.mem_range.mp (List.mem_filter.mp hj).1
  omega
section
variable {P : Program} {w : World} {K : PySem.W.Frag} {mg : Str → Option Value} {base : Heap}
theorem gf_is_word (T : Txt K mg) : GF P w K mg base CX0 "is_word" s_is_word ["word"] 1 (spP (ι := List Int) (fun w => w.length < sizeLine) (fun w => [aLI w]) (fun w => aB (w.all fun i => decide (0 ≤ i)))) := by
  refine gf_pure T.d_is_word sc_is_word (fun _ _ _ _ _ _ us hl => match us, hl with | [_], _ => rfl) (fun _ => rfl) fun i hp f cdv B outer s H E C hr => ?_
  refine x_last ?_
  refine x_ret rfl (P := aB (i.all fun x => decide (0 ≤ x))) ?_ (fun _ _ h => h) (Sub.nos rfl)
  refine x_allM C.cm T.b_all ?_
  refine x_frz ?_
  refine xf_lc (own := [("letter", 1)]) (js := [1]) (Γ' := fun x => [.im (aLI i), .im (aI x)]) (r := aI) C.cm C.nd ?_ (blkOk_by (by kernel_rfl)) (by decide) rfl (fun _ _ => rfl) ?_ hp ?_
  · exact xi_list (x_var 0)
  · intro x hx s0 H0 C0 cl fp
    exact xg_name 1 C.nd
  · intro x hx s0 H0 C0 cl fp
    exact x_ge (x_var 1) x_int
abbrev Wd (w : List Int) : Prop := w.length < 1000 ∧ ∀ i ∈ w, 0 ≤ i
theorem gf_check_word (T : Txt K mg) : GF P w K mg base CX0 "check_word" s_check_word ["word"] 2 (spP (ι := List Int) Wd (fun w => [aLI w]) (fun _ => aN)) := by
  refine gf_non T.d_check_word sc_check_word (fun _ _ _ _ _ _ us hl => match us, hl with | [_], _ => rfl) (fun _ => rfl) fun i hp f cdv B outer s H E C hr => ?_
  refine x_cons [.im (aLI i)] (x_ifN ?_ xb_nil) (x_nil (Sub.nos rfl))
  refine ETs.eq (xt_not (xt_val (x_call (gf_is_word T) C hr i (Nat.lt_of_lt_of_le hp.1 (by decide)) (xa_cons (x_var 0) xa_nil)))) ?_
  rw [Bool.not_eq_false', List.all_eq_true]
  exact fun x hx => decide_eq_true (hp.2 x hx)
theorem gf_is_first (T : Txt K mg) : GF P w K mg base CX0 "is_first" s_is_first ["word"] 1 (spP (ι := List Int) (fun w => w.length < 1000) (fun w => [aLI w]) (fun w => aB (isFst w))) := by
  refine gf_pure T.d_is_first sc_is_first (fun _ _ _ _ _ _ us hl => match us, hl with | [_], _ => rfl) (fun _ => rfl) fun i hp f cdv B outer s H E C hr => ?_
  refine x_last (x_ret rfl (P := aB (isFst i)) ?_ (fun _ _ h => h) (Sub.nos rfl))
  have e : isFst i = (decide ((0 : Int) < (i.length : Int)) && (List.range ((i.length : Int) - 1).toNat).all fun j => ltI i (i.drop (1 + j))) := by
    unfold isFst
    rw [show ((i.length : Int) - 1).toNat = i.length - 1 by omega]
    congr 1
    exact decide_eq_decide.mpr (by omega)
  rw [e]
  refine x_and (x_gt (x_lenM T.b_len (x_var 0)) x_int) fun _ => x_one ?_
  refine x_allM C.cm T.b_all (x_frz ?_)
  refine xf_lc (α := Nat) (own := [("spot", 1)]) (js := [1]) (Γ' := fun (j : Nat) => [.im (aLI i), .im (aI (1 + (j : Int)))]) (r := fun (j : Nat) => aI (1 + (j : Int))) C.cm C.nd ?_ (blkOk_by (by kernel_rfl)) (by decide) rfl (fun _ _ => rfl) ?_ ?_ ?_
  · exact xi_r2 T.b_range x_int (x_lenM T.b_len (x_var 0)) (by omega)
  · intro x hx s0 H0 C0 cl fp
    exact xg_name 1 C.nd
  · rw [List.length_range]; have : 1000 < sizeLine := by decide
    omega
  · intro x hx s0 H0 C0 cl fp
    exact x_ltLI hr (x_var 0) (x_frz (xf_from (1 + x) (x_var 0) (x_var 1) (by omega)))
theorem fall_step {n : Nat} {w : List Int} (h : w ≠ []) : fall (n + 1) w = w.take (sz w) :: fall n (w.drop (sz w)) := by
  show (if w = [] then _ else _) = _
  rw [if_neg h]
theorem gf_falling_words (T : Txt K mg) : GF P w K mg base CX0 "falling_words" s_falling_words ["word"] 2 (spO (ι := List Int) (fun w => w.length < 1000) (fun w => [aLI w]) (fun w => oLL none ((fall w.length w).map fun l => l.map aI))) := by
  refine gf_own T.d_falling_words sc_falling_words (fun _ _ _ _ _ _ us hl => match us, hl with | [_], _ => rfl) (fun _ => rfl) fun i hp f cdv B outer s H E C hr => ?_
  refine x_cons [.im (aLI i), .mu (oL []), .im (aLI i), .no] (x_parT 1 2 C.cm C.nd (xm_ow (xo_f (xf_lst xa_nil)) (xm_im (x_var 0) xm_nil))) ?_
  refine x_cons [.no, .mu (oLL none ((fall i.length i).map fun l => l.map aI)), .no, .no] ?_ ?_
  · refine x_while (τ := Nat × List (List Int) × List Int) (fun t => [.no, .mu (oLL none (t.2.1.map fun l => l.map aI)), .im (aLI t.2.2), .no]) (fun t => t.2.2.length ≤ t.1 ∧ t.2.1 ++ fall t.1 t.2.2 = fall i.length i ∧ t.2.1.length + t.2.2.length ≤ i.length)
      (fun t => decide (0 < t.2.2.length)) (fun t => t.2.2.length) (i.length, [], i) PassesOwn.never ?_ ⟨Nat.le_refl _, rfl, by simp⟩ ?_ ?_ ?_
    · exact Sub.les (.cons .no' (.cons (fun v H G F h => oLL_nil h) (.cons .rfl' (.cons .no' .nil))))
    · intro t ht
      exact (xt_gt (x_lenM T.b_len (x_var 2)) x_int).eq (decide_eq_decide.mpr (by omega))
    · rintro ⟨n, fd, lf⟩ ⟨h1, h2, h3⟩ hb
      have hlf : lf ≠ [] := by
        intro z
        subst z
        simp at hb
      have hl0 := List.length_pos_iff.mpr hlf
      obtain ⟨n', rfl⟩ : ∃ n', n = n' + 1 := ⟨n - 1, by simp only at h1; omega⟩
      simp only at h1 h2 h3
      have hs1 := sz_pos hlf
      have hs2 := sz_le hlf
      refine ⟨(n', fd ++ [lf.take (sz lf)], lf.drop (sz lf)), ⟨by simp only [List.length_drop]; omega, ?_, ?_⟩, ?_, ?_⟩
      · rw [fall_step hlf] at h2
        simpa using h2
      · simp only [List.length_append, List.length_drop, List.length_cons, List.length_nil]; omega
      · simp only [List.length_drop]; omega
      · refine x_cons [.no, .mu (oLL none (fd.map fun l => l.map aI)), .im (aLI lf), .im (aI (sz lf))] (x_set 3 C.nd (P := aI (sz lf)) ?_) ?_
        · refine x_maxL (ns := ((List.range lf.length).filter fun j => isFst (lf.take (1 + j))).map fun (j : Nat) => (1 + (j : Int))) C.cm T.b_max (x_frz (EF.eq (P := ((List.range lf.length).filter fun j => isFst (lf.take (1 + j))).map fun (j : Nat) => aI (1 + (j : Int))) ?_ (map_aI _))) ?_ ?_
          · have e : ((lf.length : Int) + 1 - 1).toNat = lf.length := by omega
            refine xf_lcIf (α := Nat) (own := [("size", 3)]) (js := [3]) (Γ' := fun (j : Nat) => [.no, .mu (oLL none (fd.map fun l => l.map aI)), .im (aLI lf), .im (aI (1 + (j : Int)))]) (r := fun (j : Nat) => aI (1 + (j : Int))) C.cm C.nd ?_ (blkOk_by (by kernel_rfl)) (by decide) rfl (fun _ _ => rfl) ?_ ?_ ?_ ?_
            · exact e ▸ xi_r2 T.b_range x_int (x_add (x_lenM T.b_len (x_var 2)) x_int) (by omega)
            · intro x hx s0 H0 C0 cl fp
              exact xg_name 3 C.nd
            · rw [List.length_range]; have : 1000 < sizeLine := by decide
              omega
            · intro x hx s0 H0 C0 cl fp
              exact xt_val (x_call (gf_is_first T) C.blk hr (lf.take (1 + x)) (by rw [List.length_take]; omega) (xa_cons (x_frz (xf_to (1 + x) (x_var 2) (x_var 3) (by omega))) xa_nil))
            · intro x hx hb s0 H0 C0 cl fp
              exact x_var 3
          · obtain ⟨j, hj, e⟩ := List.mem_map.mp (sz_mem hlf)
            exact List.mem_map.mpr ⟨j, hj, by omega⟩
          · intro y hy
            obtain ⟨j, hj, e⟩ := List.mem_map.mp hy
            have := sz_ge (List.mem_map.mpr ⟨j, hj, rfl⟩)
            omega
        · refine x_cons _ (x_appendN 1 rfl (xf_to (sz lf) (x_var 2) (x_var 3) rfl) ?_) ?_
          · rw [List.length_map]; have : 1000 < sizeLine := by decide
            omega
          · refine x_cons _ (x_set 2 C.nd (x_frz (xf_from (sz lf) (x_var 2) (x_var 3) rfl))) (x_nil (Sub.les (.cons .no' (.cons ?_ (.cons .rfl' (.cons .no' .nil))))))
            exact .ow (by rw [List.map_append]; rfl)
    · rintro ⟨n, fd, lf⟩ ⟨h1, h2, h3⟩ hb
      have hlf : lf = [] := by
        cases lf with
        | nil => rfl
        | cons a l => simp at hb
      subst hlf
      refine Sub.les (.cons .no' (.cons (.ow ?_) (.cons .no' (.cons .no' .nil))))
      have h2 : fd ++ fall n [] = fall i.length i := h2
      rw [← h2]
      have : fall n [] = [] := by cases n <;> rfl
      rw [this, List.append_nil]
  · exact x_last (x_retO rfl (xo_var 1 rfl) (Sub.mu rfl))
end
end K54
namespace K54
open PySem L2 PySem.Spec NS
/-! ### plain -/
def cuts : Nat → List Int → List (List (List Int))
  | 0, _ => [[]]
  | n + 1, w => if w = [] then [[]] else (List.range w.length).flatMap fun j => (cuts n (w.drop (1 + j))).map fun rest => w.take (1 + j) :: rest
def isFall (ls : List (List Int)) : Bool := ls.all isFst && (List.range (ls.length - 1)).all fun j => !ltI (ls.getD j []) (ls.getD (1 + j) [])
theorem flat_len {α β : Type} {f : α → List β} {m : Nat} : ∀ {l : List α}, (∀ x ∈ l, (f x).length ≤ m) → (l.flatMap f).length ≤ l.length * m
  | [], _ => by simp
  | x :: l, h => by
    have ih := flat_len (f := f) (m := m) (l := l) fun y hy => h y (List.mem_cons_of_mem _ hy)
    have h1 := h x List.mem_cons_self
    rw [List.flatMap_cons, List.length_append, List.length_cons, Nat.succ_mul]
    omega
theorem cuts_len : ∀ (n : Nat) (w : List Int), w.length ≤ 5 → (cuts n w).length ≤ 5 ^ n
  | 0, _, _ => Nat.le_refl _
  | n + 1, w, h => by
    show (if w = [] then _ else _ : List (List (List Int))).length ≤ _
    split
    · exact Nat.one_le_pow _ _ (by decide)
    · refine Nat.le_trans (flat_len (m := 5 ^ n) fun x _ => ?_) ?_
      · rw [List.length_map]
        exact cuts_len n _ (by rw [List.length_drop]; omega)
      · rw [List.length_range, Nat.pow_succ, Nat.mul_comm]
        exact Nat.mul_le_mul_left _ h
theorem cuts_in : ∀ (n : Nat) (w : List Int) (c : List (List Int)), c ∈ cuts n w → c.length ≤ w.length
  | 0, w, c, h => by
    have : c = [] := List.mem_singleton.mp h
    subst this
    exact Nat.zero_le _
  | n + 1, w, c, h => by
    have h : c ∈ (if w = [] then [[]] else (List.range w.length).flatMap fun j => (cuts n (w.drop (1 + j))).map fun rest => w.take (1 + j) :: rest) := h
    split at h
    · have : c = [] := List.mem_singleton.mp h
      subst this
      exact Nat.zero_le _
    · obtain ⟨j, hj, h⟩ := List.mem_flatMap.mp h
      obtain ⟨r, hr, rfl⟩ := List.mem_map.mp h
      have := cuts_in n _ r hr
      have hj := List.mem_range.mp hj
      rw [List.length_drop] at this
      rw [List.length_cons]
      omega
abbrev ifOf (b : List Stmt) : Expr := match b with | .If c _ _ _ :: _ => c | _ => .Constant .none 0 ⟨0, 0, 0, 0⟩
section
variable {P : Program} {w : World} {K : PySem.W.Frag} {mg : Str → Option Value} {base : Heap}
theorem gf_is_fundamental (T : Txt K mg) : GF P w K mg base CX0 "is_fundamental" s_is_fundamental ["word"] 3 (spP (ι := List Int) Wd (fun w => [aLI w]) (fun w => aB (isFst w))) := by
  refine gf_pure T.d_is_fundamental sc_is_fundamental (fun _ _ _ _ _ _ us hl => match us, hl with | [_], _ => rfl) (fun _ => rfl) fun i hp f cdv B outer s H E C hr => ?_
  refine x_cons [.im (aLI i)] (x_expr (x_call (gf_check_word T) C hr i hp (xa_cons (x_var 0) xa_nil))) ?_
  exact x_last (x_ret rfl (x_call (gf_is_first T) C (hr.mono (by decide)) i hp.1 (xa_cons (x_var 0) xa_nil)) (fun _ _ h => h) (Sub.nos rfl))
theorem gf_falling (T : Txt K mg) : GF P w K mg base CX0 "falling" s_falling ["word"] 3 (spO (ι := List Int) Wd (fun w => [aLI w]) (fun w => oLL none ((fall w.length w).map fun l => l.map aI))) := by
  refine gf_own T.d_falling sc_falling (fun _ _ _ _ _ _ us hl => match us, hl with | [_], _ => rfl) (fun _ => rfl) fun i hp f cdv B outer s H E C hr => ?_
  refine x_cons [.im (aLI i)] (x_expr (x_call (gf_check_word T) C hr i hp (xa_cons (x_var 0) xa_nil))) ?_
  exact x_last (x_retO rfl (xo_call (gf_falling_words T) C hr i hp.1 (xa_cons (x_frz (xf_listL T.b_list (x_var 0))) xa_nil)) (Sub.mu rfl))
theorem gf__law_is_first (T : Txt K mg) : GF P w K mg base CX0 "_law_is_first" s__law_is_first ["letters"] 1 (spP (ι := List Int) (fun w => w.length < 1000) (fun w => [aLI w]) (fun w => aB (isFst w))) := by
  refine gf_pure T.d__law_is_first sc__law_is_first (fun _ _ _ _ _ _ us hl => match us, hl with | [_], _ => rfl) (fun _ => rfl) fun i hp f cdv B outer s H E C hr => ?_
  have big : 1000 < sizeLine := by decide
  refine x_cons [.im (aLI i), .im (aL ((List.range ((i.length : Int) - 1).toNat).map fun j => aLI (i.drop (1 + j)))), .no, .no] (x_setC 1 C.cm C.nd ?_) ?_
  · refine xc_lc (α := Nat) (own := [("at", 2)]) (js := [2]) (Γ' := fun (j : Nat) => [.im (aLI i), .no, .im (aI (1 + (j : Int))), .no]) (r := fun (j : Nat) => aI (1 + (j : Int))) ?_ (blkOk_by (by kernel_rfl)) (by decide) rfl (fun _ _ => rfl) ?_ ?_ ?_
    · exact xi_r2 T.b_range x_int (x_lenM T.b_len (x_var 0)) (by omega)
    · intro x hx s0 H0 C0 cl fp
      exact xg_name 2 C.nd
    · rw [List.length_range]
      omega
    · intro x hx s0 H0 C0 cl fp
      exact x_frz (xf_from (1 + x) (x_var 0) (x_var 2) (by omega))
  · refine x_last (x_ret rfl (P := aB (isFst i)) ?_ (fun _ _ h => h) (Sub.nos rfl))
    have e : isFst i = (!i.isEmpty && ((List.range ((i.length : Int) - 1).toNat).filter fun j => !ltI i (i.drop (1 + j))).isEmpty) := by
      unfold isFst
      rw [show ((i.length : Int) - 1).toNat = i.length - 1 by omega]
      congr 1
      · cases i <;> rfl
      · rw [Bool.eq_iff_iff]
        simp [List.all_eq_true, List.isEmpty_iff, List.filter_eq_nil_iff]
    rw [e]
    refine x_and ?_ fun _ => x_one ?_
    · exact x_neNil (f := fun x : Int => .int x) (n := 0) hr (x_var 0) (fun _ _ => isD_I) (fun _ _ => shp_I)
    · refine x_eqNil (r := fun j => aLI (i.drop (1 + j))) (f := fun j => dLI (i.drop (1 + j))) (n := 1) hr (x_frz ?_) (fun _ _ => isD_LI) (fun _ _ => shp_LI)
      refine xf_lcIf (α := Nat) (own := [("end", 3)]) (js := [3]) (Γ' := fun (j : Nat) => [.im (aLI i), .im (aL ((List.range ((i.length : Int) - 1).toNat).map fun j => aLI (i.drop (1 + j)))), .no, .im (aLI (i.drop (1 + j)))]) (r := fun (j : Nat) => aLI (i.drop (1 + j))) C.cm C.nd ?_ (blkOk_by (by kernel_rfl)) (by decide) rfl (fun _ _ => rfl) ?_ ?_ ?_ ?_
      · exact xi_list (x_var 1)
      · intro x hx s0 H0 C0 cl fp
        exact xg_name 3 C.nd
      · rw [List.length_range]
        omega
      · intro x hx s0 H0 C0 cl fp
        exact xt_not (xt_ltLI hr (x_var 0) (x_var 3))
      · intro x hx hb s0 H0 C0 cl fp
        exact x_var 3
theorem gf__law_all_cuts (T : Txt K mg) : ∀ n, n ≤ 5 → GF P w K mg base CX0 "_law_all_cuts" s__law_all_cuts ["letters"] (n + 1) (spP (ι := List Int) (fun w => w.length ≤ n) (fun w => [aLI w]) (fun w => aL ((cuts n w).map fun c => aL (c.map aLI)))) := by
  intro n
  induction n with
  | zero =>
    intro _
    refine gf_pure T.d__law_all_cuts sc__law_all_cuts (fun _ _ _ _ _ _ us hl => match us, hl with | [_], _ => rfl) (fun _ => rfl) fun i hp f cdv B outer s H E C hr => ?_
    have hi : i = [] := List.length_eq_zero_iff.mp (Nat.le_zero.mp hp)
    subst hi
    refine x_end (x_ifY ?_ (x_last (x_ret rfl (x_lst (xa_cons (x_lst xa_nil) xa_nil)) (fun _ _ h => h) (Sub.nos rfl))))
    exact xt_eqNil (xs := ([] : List Int)) (r := aI) (f := fun x : Int => .int x) (n := 0) hr (x_var 0) (fun _ _ => isD_I) (fun _ _ => shp_I)
  | succ n ih =>
    intro hn5
    refine gf_pure T.d__law_all_cuts sc__law_all_cuts (fun _ _ _ _ _ _ us hl => match us, hl with | [_], _ => rfl) (fun _ => rfl) fun i hp f cdv B outer s H E C hr => ?_
    have hp : i.length ≤ n + 1 := hp
    by_cases hi : i = []
    · subst hi
      refine x_end (x_ifY ?_ (x_last (x_ret rfl (x_lst (xa_cons (x_lst xa_nil) xa_nil)) (fun _ _ h => h) (Sub.nos rfl))))
      exact xt_eqNil (xs := ([] : List Int)) (r := aI) (f := fun x : Int => .int x) (n := 0) hr (x_var 0) (fun _ _ => isD_I) (fun _ _ => shp_I)
    · have hE : i.isEmpty = false := by cases i <;> first | rfl | exact absurd rfl hi
      have hcut : cuts (n + 1) i = (List.range i.length).flatMap fun j => (cuts n (i.drop (1 + j))).map fun rest => i.take (1 + j) :: rest := by
        show (if i = [] then _ else _) = _
        rw [if_neg hi]
      let g : Nat → List (List (List Int)) := fun j => (cuts n (i.drop (1 + j))).map fun rest => i.take (1 + j) :: rest
      let acc : Nat → List (List (List Int)) := fun m => (List.range m).flatMap g
      have accS : ∀ m, acc (m + 1) = acc m ++ g m := fun m => by
        show (List.range (m + 1)).flatMap g = _
        rw [List.range_succ, List.flatMap_append, List.flatMap_singleton]
      have gl : ∀ j, (g j).length ≤ 5 ^ n := fun j => by
        show (List.map _ _).length ≤ _
        rw [List.length_map]
        exact cuts_len n _ (by rw [List.length_drop]; omega)
      have p5 : 5 ^ n ≤ 5 ^ 4 := Nat.pow_le_pow_right (by decide) (by omega)
      have accl : ∀ m, m ≤ 5 → (acc m).length ≤ 5 ^ 5 := fun m hm => by
        have := flat_len (f := g) (m := 5 ^ n) (l := List.range m) fun x _ => gl x
        rw [List.length_range] at this
        have h2 : m * 5 ^ n ≤ 5 * 5 ^ 4 := Nat.mul_le_mul hm p5
        exact Nat.le_trans this h2
      let r : List (List Int) → As := fun c => aL (c.map aLI)
      refine x_cons [.im (aLI i), .no, .no, .no] (x_ifN ((xt_eqNil (f := fun x : Int => .int x) (n := 0) hr (x_var 0) (fun _ _ => isD_I) (fun _ _ => shp_I)).eq hE) xb_nil) ?_
      refine x_cons [.im (aLI i), .mu (oL []), .no, .no] (x_ownL 1 C.nd (xf_lst xa_nil)) ?_
      refine x_cons [.no, .mu (oL ((cuts (n + 1) i).map r)), .no, .no] ?_ ?_
      · refine x_for (α := Nat) (js := [2]) (xs := List.range i.length) (r := fun (j : Nat) => aI (1 + (j : Int))) (fun m => [.im (aLI i), .mu (oL ((acc m).map r)), .no, .no]) (fun m j => [.im (aLI i), .mu (oL ((acc m).map r)), .im (aI (1 + (j : Int))), .no]) PassesOwn.never C.cm ?_ ?_ ?_ ?_ ?_
        · have e : ((i.length : Int) + 1 - 1).toNat = i.length := by omega
          exact e ▸ xi_r2 T.b_range x_int (x_add (x_lenM T.b_len (x_var 0)) x_int) (by omega)
        · exact Sub.rfl'
        · intro m j _
          exact xg_name 2 C.nd
        · intro m j hm
          have hj : j = m := by
            have := List.getElem?_eq_some_iff.mp hm
            obtain ⟨h1, h2⟩ := this
            rw [List.getElem_range] at h2
            exact h2.symm
          have hml : m < i.length := by
            obtain ⟨h1, _⟩ := List.getElem?_eq_some_iff.mp hm
            rwa [List.length_range] at h1
          subst hj
          refine x_last (x_for (α := List (List Int)) (js := [3]) (xs := cuts n (i.drop (1 + j))) (r := r) (fun k => [.im (aLI i), .mu (oL ((acc j ++ (g j).take k).map r)), .im (aI (1 + (j : Int))), .no]) (fun k c => [.im (aLI i), .mu (oL ((acc j ++ (g j).take k).map r)), .im (aI (1 + (j : Int))), .im (r c)]) PassesOwn.never C.cm ?_ ?_ ?_ ?_ ?_)
          · refine xi_list (x_call (ih (by omega)) C hr (i.drop (1 + j)) ?_ (xa_cons (x_frz (xf_from (1 + j) (x_var 0) (x_var 2) (by omega))) xa_nil))
            show (i.drop (1 + j)).length ≤ n
            rw [List.length_drop]; omega
          · refine Sub.les (.cons .rfl' (.cons (.ow ?_) (.cons .rfl' (.cons .rfl' .nil))))
            rw [List.take_zero, List.append_nil]
          · intro k c _
            exact xg_name 3 C.nd
          · intro k c hk
            have hgk : (g j)[k]? = some (i.take (1 + j) :: c) := by
              show (List.map _ _)[k]? = _
              rw [List.getElem?_map, hk]
              rfl
            refine x_cons _ (x_append 1 rfl (x_frz (xf_cat (Ps := [aLI (i.take (1 + j))]) (x_lst (xa_cons (x_frz (xf_to (1 + j) (x_var 0) (x_var 2) (by omega))) xa_nil)) (x_var 3) ?_)) ?_) (x_nil (Sub.les (.cons .rfl' (.cons (.ow ?_) (.cons .rfl' (.cons .no' .nil))))))
            · have h1 := cuts_in _ _ c (List.mem_of_getElem? hk)
              rw [List.length_drop] at h1
              rw [List.length_map]
              have : 10 < sizeLine := by decide
              show 1 + c.length ≤ _
              omega
            · rw [List.length_map, List.length_append]
              have h1 := accl j (by omega)
              have h2 := gl j
              have h3 : ((g j).take k).length ≤ (g j).length := by rw [List.length_take]; exact Nat.min_le_right _ _
              have : 5 ^ 5 + 5 ^ 4 < sizeLine := by decide
              omega
            · rw [List.take_add_one, hgk]
              simp [r]
          · refine Sub.les (.cons .rfl' (.cons (.ow ?_) (.cons .no' (.cons .no' .nil))))
            rw [accS]
            have : (cuts n (i.drop (1 + j))).length = (g j).length := by
              show _ = (List.map _ _).length
              rw [List.length_map]
            rw [this, List.take_length]
        · refine Sub.les (.cons .no' (.cons (.ow ?_) (.cons .no' (.cons .no' .nil))))
          rw [List.length_range, hcut]
      · exact x_last (y_ret rfl (x_ofO (xo_var 1 rfl) (Sub.frz 0 rfl)) (fun _ _ h => h) (Sub.nos rfl))
theorem gf__law_is_falling (T : Txt K mg) : GF P w K mg base CX0 "_law_is_falling" s__law_is_falling ["lines"] 2 (spP (ι := List (List Int)) (fun ls => ls.length < 1000 ∧ ∀ l ∈ ls, l.length < 1000) (fun ls => [aL (ls.map aLI)]) (fun ls => aB (isFall ls))) := by
  refine gf_pure T.d__law_is_falling sc__law_is_falling (fun _ _ _ _ _ _ us hl => match us, hl with | [_], _ => rfl) (fun _ => rfl) fun i hp f cdv B outer s H E C hr => ?_
  have big : 1000 < sizeLine := by decide
  have hp1 := hp.1
  have hT : XT (CxD CX0 P w K mg base n__law_is_falling "_law_is_falling" (defScope s__law_is_falling) f cdv B outer s H E).nox [.im (aL (i.map aLI)), .no, .no] (ifOf (defBody s__law_is_falling)) (!(i.filter fun l => !isFst l).isEmpty) := by
    refine xt_neNil (r := aLI) (f := dLI) (n := 1) hr (x_frz ?_) (fun _ _ => isD_LI) (fun _ _ => shp_LI)
    refine xf_lcIf (α := List Int) (own := [("line", 1)]) (js := [1]) (Γ' := fun l => [.im (aL (i.map aLI)), .im (aLI l), .no]) (r := aLI) C.cm C.nd ?_ (blkOk_by (by kernel_rfl)) (by decide) rfl (fun _ _ => rfl) ?_ (by omega) ?_ ?_
    · exact xi_list (x_var 0)
    · intro x hx s0 H0 C0 cl fp
      exact xg_name 1 C.nd
    · intro x hx s0 H0 C0 cl fp
      exact xt_not (xt_val (x_call (gf__law_is_first T) C.blk hr x (hp.2 x hx) (xa_cons (x_var 1) xa_nil)))
    · intro x hx hb s0 H0 C0 cl fp
      exact x_var 1
  cases ha : i.all isFst with
  | false =>
    have e : (!(i.filter fun l => !isFst l).isEmpty) = true := by
      rw [Bool.not_eq_true', List.isEmpty_eq_false_iff]
      intro z
      rw [List.filter_eq_nil_iff] at z
      have : i.all isFst = true := List.all_eq_true.mpr fun x hx => by simpa using z x hx
      rw [ha] at this
      cases this
    have e2 : isFall i = false := by unfold isFall; rw [ha]; rfl
    refine x_end (x_ifY (hT.eq e) (x_last (x_ret rfl (P := aB false) x_bl (fun _ _ h => by rw [e2]; exact h) (Sub.nos rfl))))
  | true =>
    have e : (!(i.filter fun l => !isFst l).isEmpty) = false := by
      rw [Bool.not_eq_false', List.isEmpty_iff, List.filter_eq_nil_iff]
      intro x hx
      simp [List.all_eq_true.mp ha x hx]
    have e2 : isFall i = ((List.range ((i.length : Int) - 1).toNat).filter fun j => ltI (i.getD j []) (i.getD (1 + j) [])).isEmpty := by
      unfold isFall
      rw [ha, show ((i.length : Int) - 1).toNat = i.length - 1 by omega]
      rw [Bool.eq_iff_iff]
      simp [List.all_eq_true, List.isEmpty_iff, List.filter_eq_nil_iff]
    refine x_cons [.im (aL (i.map aLI)), .no, .no] (x_ifN (hT.eq e) xb_nil) (x_last (x_ret rfl (P := aB (isFall i)) ?_ (fun _ _ h => h) (Sub.nos rfl)))
    rw [e2]
    refine x_eqNil (r := fun (j : Nat) => aI (1 + (j : Int))) (f := fun (j : Nat) => .int (1 + (j : Int))) (n := 0) hr (x_frz ?_) (fun _ _ => isD_I) (fun _ _ => shp_I)
    refine xf_lcIf (α := Nat) (own := [("at", 2)]) (js := [2]) (Γ' := fun (j : Nat) => [.im (aL (i.map aLI)), .no, .im (aI (1 + (j : Int)))]) (r := fun (j : Nat) => aI (1 + (j : Int))) C.cm C.nd ?_ (blkOk_by (by kernel_rfl)) (by decide) rfl (fun _ _ => rfl) ?_ ?_ ?_ ?_
    · exact xi_r2 T.b_range x_int (x_lenM T.b_len (x_var 0)) (by omega)
    · intro x hx s0 H0 C0 cl fp
      exact xg_name 2 C.nd
    · rw [List.length_range]; omega
    · intro x hx s0 H0 C0 cl fp
      have hx := List.mem_range.mp hx
      have h1 : (i.map aLI)[x]? = some (aLI (i.getD x [])) := by
        rw [List.getElem?_map, List.getD_eq_getElem?_getD, List.getElem?_eq_getElem (by omega)]
        rfl
      have h2 : (i.map aLI)[1 + x]? = some (aLI (i.getD (1 + x) [])) := by
        rw [List.getElem?_map, List.getD_eq_getElem?_getD, List.getElem?_eq_getElem (by omega)]
        rfl
      refine xt_ltLI hr (x_ixL (j := x) (x_var 0) (x_sub (x_var 2) x_int) ?_ h1) (x_ixL (j := 1 + x) (x_var 0) (x_var 2) ?_ h2)
      · rw [ixN_nat (by omega) (by rw [List.length_map]; omega)]; congr 1; omega
      · rw [ixN_nat (by omega) (by rw [List.length_map]; omega)]; rfl
    · intro x hx hb s0 H0 C0 cl fp
      exact x_var 2
end
end K54
namespace K54
open PySem L2 PySem.Spec NS
section
variable {P : Program} {w : World} {K : PySem.W.Frag} {mg : Str → Option Value} {base : Heap}
theorem gf__law_pool (T : Txt K mg) : GF P w K mg base CX0 "_law_pool" s__law_pool ["script", "spot"] 1 (spO (ι := List Int × Nat) (fun x => x.1.length ≤ 63 ∧ x.2 ≤ 63) (fun x => [ScrAt K x.1, aI x.2]) (fun _ => oPool0)) := by
  refine gf_own T.d__law_pool sc__law_pool (fun _ _ _ _ _ _ us hl => match us, hl with | [_, _], _ => rfl) (fun _ => rfl) fun ⟨ns, sp⟩ ⟨hp, hp2⟩ f cdv B outer s H E C hr => ?_
  have go : ∀ c : Int, XB (CxD CX0 P w K mg base n__law_pool "_law_pool" (defScope s__law_pool) f cdv B outer s H E).nox [.im (ScrAt K ns), .im (aI sp), .im (aI c)] ((defBody s__law_pool).drop 2) { ro := some (.mu oPool0, nos 3) } := fun c => by
    refine x_last (x_retO rfl (YO.imp (O := oL [aI (max 0 ((c.natAbs : Int) - 10 ^ 18)), aI (c % 2305843009213693951 + 7368787 * ((sp : Int) + 1)), aI 0]) (xo_f (xf_lst ?_)) fun v H G F h => oPool0_of ?_ ?_ ?_ h) (Sub.mu rfl))
    · refine xa_cons (x_max2 C.cm T.b_max x_int (x_sub (x_abs T.b_abs (x_var 2)) (x_powW x_int x_int (powW_of (n := 4) (by decide) (by decide) (by decide) (by decide))))) (xa_cons ?_ (xa_cons x_int xa_nil))
      exact x_add (x_mod (x_intI T.b_int (x_var 2)) x_int (by decide)) (x_mul x_int (x_add (x_var 1) x_int) (.inl (by decide)))
    · exact Int.le_max_left _ _
    · have := Int.emod_nonneg c (show (2305843009213693951 : Int) ≠ 0 by decide)
      omega
    · have := Int.emod_lt_of_pos c (show (0 : Int) < 2305843009213693951 by decide)
      have h2 : sp ≤ 63 := hp2
      omega
  refine x_cons [.im (ScrAt K ns), .im (aI sp), .im (aI 0)] (x_set 2 C.nd x_int) ?_
  by_cases h : sp < ns.length
  · have hg : ns[sp]? = some (ns[sp]'h) := List.getElem?_eq_getElem h
    refine x_cons [.im (ScrAt K ns), .im (aI sp), .im (aI (ns[sp]'h))] (x_ifY ((xt_lt (x_var 1) (x_lenS T.b_len (x_var 0))).eq (decide_eq_true (by omega))) (x_cons _ (x_set 2 C.nd (x_ixS (j := sp) (x_var 0) (x_var 1) ?_ hg)) xb_nil)) (go _)
    rw [ixN_nat (by omega) (by omega)]
    rfl
  · exact x_cons [.im (ScrAt K ns), .im (aI sp), .im (aI 0)] (x_ifN ((xt_lt (x_var 1) (x_lenS T.b_len (x_var 0))).eq (decide_eq_false (by omega))) xb_nil) (go _)
/-- what a draw of a fixed bound gives, j the pool's slot -/
theorem y_draw {X : Cx} {Γ : List En} (T : Txt X.K X.mg) (C : Cxt X) (hr : Room 1 X.A) (j : Nat) {n : Int} {m : Nat} {q : Addr} {y : Str} {py p pos : Pos} {e : Expr} (ha : XE X Γ e (aI n)) (hn : 1 ≤ n := by decide) (hb : n < 2 ^ 64 := by decide) (hm : m ≤ 2 ^ 60) (hj : Γ[j]? = some (.mu (oPool m q)) := by rfl) (hN : X.N[j]? = some y := by rfl)
    (hv : Vis X.env.scope y := by first | exact Or.inl rfl | exact Or.inr (Or.inl rfl) | exact Or.inr (Or.inr rfl)) (hd : (y == ("__debug__" : Str)) = false := by decide) (hcd : (y == ("__classdict__" : Str)) = false := by decide) (hg : Gl X "_law_draw" := by rfl)
    (he : starEach [.Name y py, e] X.env = (false, eval (.Name y py) X.env) :: starEach [e] X.env := by rfl) (he2 : starEach [e] X.env = (false, eval e X.env) :: starEach [] X.env := by rfl) (hpl : (backTo pos (starEach [e] X.env)).any (·.1) = false := by rfl) : YE X Γ (Γ.set j (.mu (oPool (m + 1) q))) (.Call (.Name "_law_draw" p) [.Name y py, e] [] pos) (aIs fun r => 0 ≤ r ∧ r < n) :=
  y_callM (gf__law_draw T) C hr (fun _ _ _ _ _ _ => oPool_pin) (fun _ _ _ _ _ _ => oPool_pin) j (m, n) ⟨hn, Int.lt_trans hb (by decide +kernel), hm⟩ (ya_cons ha ya_nil he2) ⟨_, hj, fun _ _ _ _ => oPool_pin⟩ hj hN hv hd hcd hg (by decide) he hpl
end
end K54
namespace K54
open NS
/-! ### all short words, by the kernel -/
def good (w : List Int) : Bool := decide ((cuts 5 w).filter isFall = [fall w.length w]) && decide ((fall w.length w).length ≤ 5) && (fall w.length w).all fun l => isFst l && decide (fall l.length l = [l]) && decide (l.length ≤ 5) && l.all fun i => decide (0 ≤ i) && decide (i < 5)
def goodD (w : List Int) : Bool := (fall w.length w).all fun l => decide (fall (l ++ l).length (l ++ l) = [l, l]) && !isFst (l ++ l)
def words : Nat → List (List Int)
  | 0 => [[]]
  | n + 1 => [] :: (words n).flatMap fun w => [0 :: w, 1 :: w, 2 :: w, 3 :: w, 4 :: w]
theorem words_mem : ∀ (n : Nat) (w : List Int), w.length ≤ n → (∀ i ∈ w, 0 ≤ i ∧ i < 5) → w ∈ words n
  | 0, w, h, _ => by
    have : w = [] := List.length_eq_zero_iff.mp (Nat.le_zero.mp h)
    subst this
    exact List.mem_cons_self
  | n + 1, [], _, _ => List.mem_cons_self
  | n + 1, a :: w, h, hl => by
    refine List.mem_cons_of_mem _ (List.mem_flatMap.mpr ⟨w, words_mem n w (Nat.le_of_succ_le_succ h) fun i hi => hl i (List.mem_cons_of_mem _ hi), ?_⟩)
    have ha := hl a List.mem_cons_self
    have : a = 0 ∨ a = 1 ∨ a = 2 ∨ a = 3 ∨ a = 4 := by omega
    rcases this with e | e | e | e | e <;> subst e <;> simp
theorem good_00 : ((words 3).all fun w => good (0 :: 0 :: w)) = true := by decide +kernel
theorem good_01 : ((words 3).all fun w => good (0 :: 1 :: w)) = true := by decide +kernel
theorem good_02 : ((words 3).all fun w => good (0 :: 2 :: w)) = true := by decide +kernel
theorem good_03 : ((words 3).all fun w => good (0 :: 3 :: w)) = true := by decide +kernel
theorem good_04 : ((words 3).all fun w => good (0 :: 4 :: w)) = true := by decide +kernel
theorem good_10 : ((words 3).all fun w => good (1 :: 0 :: w)) = true := by decide +kernel
theorem good_11 : ((words 3).all fun w => good (1 :: 1 :: w)) = true := by decide +kernel
theorem good_12 : ((words 3).all fun w => good (1 :: 2 :: w)) = true := by decide +kernel
theorem good_13 : ((words 3).all fun w => good (1 :: 3 :: w)) = true := by decide +kernel
theorem good_14 : ((words 3).all fun w => good (1 :: 4 :: w)) = true := by decide +kernel
theorem good_20 : ((words 3).all fun w => good (2 :: 0 :: w)) = true := by decide +kernel
theorem good_21 : ((words 3).all fun w => good (2 :: 1 :: w)) = true := by decide +kernel
theorem good_22 : ((words 3).all fun w => good (2 :: 2 :: w)) = true := by decide +kernel
theorem good_23 : ((words 3).all fun w => good (2 :: 3 :: w)) = true := by decide +kernel
theorem good_24 : ((words 3).all fun w => good (2 :: 4 :: w)) = true := by decide +kernel
theorem good_30 : ((words 3).all fun w => good (3 :: 0 :: w)) = true := by decide +kernel
theorem good_31 : ((words 3).all fun w => good (3 :: 1 :: w)) = true := by decide +kernel
theorem good_32 : ((words 3).all fun w => good (3 :: 2 :: w)) = true := by decide +kernel
theorem good_33 : ((words 3).all fun w => good (3 :: 3 :: w)) = true := by decide +kernel
theorem good_34 : ((words 3).all fun w => good (3 :: 4 :: w)) = true := by decide +kernel
theorem good_40 : ((words 3).all fun w => good (4 :: 0 :: w)) = true := by decide +kernel
theorem good_41 : ((words 3).all fun w => good (4 :: 1 :: w)) = true := by decide +kernel
theorem good_42 : ((words 3).all fun w => good (4 :: 2 :: w)) = true := by decide +kernel
theorem good_43 : ((words 3).all fun w => good (4 :: 3 :: w)) = true := by decide +kernel
theorem good_44 : ((words 3).all fun w => good (4 :: 4 :: w)) = true := by decide +kernel
theorem good_1s : ((words 1).all good) = true := by decide +kernel
theorem goodD2 : ((words 2).all goodD) = true := by decide +kernel
theorem good_of : ∀ {w : List Int}, w.length ≤ 5 → (∀ i ∈ w, 0 ≤ i ∧ i < 5) → good w = true
  | [], _, _ => List.all_eq_true.mp good_1s [] (words_mem 1 [] (by decide) (fun _ h => by simp at h))
  | [a], _, hl => List.all_eq_true.mp good_1s [a] (words_mem 1 [a] (Nat.le_refl _) hl)
  | a :: b :: w, h, hl => by
    have hm := words_mem 3 w (Nat.le_of_succ_le_succ (Nat.le_of_succ_le_succ h)) fun i hi => hl i (List.mem_cons_of_mem _ (List.mem_cons_of_mem _ hi))
    have ha := hl a List.mem_cons_self
    have hb := hl b (List.mem_cons_of_mem _ List.mem_cons_self)
    have h1 : a = 0 ∨ a = 1 ∨ a = 2 ∨ a = 3 ∨ a = 4 := by omega
    have h2 : b = 0 ∨ b = 1 ∨ b = 2 ∨ b = 3 ∨ b = 4 := by omega
    rcases h1 with e | e | e | e | e <;> subst e <;> rcases h2 with e | e | e | e | e <;> subst e
    · exact List.all_eq_true.mp good_00 w hm
    · exact List.all_eq_true.mp good_01 w hm
    · exact List.all_eq_true.mp good_02 w hm
    · exact List.all_eq_true.mp good_03 w hm
    · exact List.all_eq_true.mp good_04 w hm
    · exact List.all_eq_true.mp good_10 w hm
    · exact List.all_eq_true.mp good_11 w hm
    · exact List.all_eq_true.mp good_12 w hm
    · exact List.all_eq_true.mp good_13 w hm
    · exact List.all_eq_true.mp good_14 w hm
    · exact List.all_eq_true.mp good_20 w hm
    · exact List.all_eq_true.mp good_21 w hm
    · exact List.all_eq_true.mp good_22 w hm
    · exact List.all_eq_true.mp good_23 w hm
    · exact List.all_eq_true.mp good_24 w hm
    · exact List.all_eq_true.mp good_30 w hm
    · exact List.all_eq_true.mp good_31 w hm
    · exact List.all_eq_true.mp good_32 w hm
    · exact List.all_eq_true.mp good_33 w hm
    · exact List.all_eq_true.mp good_34 w hm
    · exact List.all_eq_true.mp good_40 w hm
    · exact List.all_eq_true.mp good_41 w hm
    · exact List.all_eq_true.mp good_42 w hm
    · exact List.all_eq_true.mp good_43 w hm
    · exact List.all_eq_true.mp good_44 w hm
theorem goodD_of {w : List Int} (h : w.length ≤ 2) (hl : ∀ i ∈ w, 0 ≤ i ∧ i < 5) : goodD w = true := List.all_eq_true.mp goodD2 w (words_mem 2 w h hl)
structure Facts (w : List Int) : Prop where
  one : (cuts 5 w).filter isFall = [fall w.length w]
  len : (fall w.length w).length ≤ 5
  all : ∀ l ∈ fall w.length w, isFst l = true ∧ fall l.length l = [l] ∧ l.length ≤ 5 ∧ ∀ i ∈ l, 0 ≤ i ∧ i < 5
theorem facts {w : List Int} (h : w.length ≤ 5) (hl : ∀ i ∈ w, 0 ≤ i ∧ i < 5) : Facts w := by
  have g := good_of h hl
  unfold good at g
  simp only [Bool.and_eq_true, decide_eq_true_eq, List.all_eq_true] at g
  exact ⟨g.1.1, g.1.2, fun l hm => by
    have := g.2 l hm
    exact ⟨this.1.1.1, this.1.1.2, this.1.2, this.2⟩⟩
theorem factsD {w : List Int} (h : w.length ≤ 2) (hl : ∀ i ∈ w, 0 ≤ i ∧ i < 5) : ∀ l ∈ fall w.length w, fall (l ++ l).length (l ++ l) = [l, l] ∧ isFst (l ++ l) = false := by
  have g := goodD_of h hl
  unfold goodD at g
  simp only [Bool.and_eq_true, decide_eq_true_eq, List.all_eq_true, Bool.not_eq_true'] at g
  exact g
end K54
namespace K54
open PySem L2 PySem.Spec NS
/-- a word of the law: short, small -/
def Dm (n : Nat) (w : List Int) : Prop := w.length ≤ n ∧ ∀ i ∈ w, 0 ≤ i ∧ i < 5
theorem Dm.wd {n : Nat} {w : List Int} (h : Dm n w) (hn : n < 1000) : Wd w := ⟨Nat.lt_of_le_of_lt h.1 hn, fun i hi => (h.2 i hi).1⟩
theorem all_is {S : Int → Prop} {G : Gh} {α : Type} : ∀ {xs : List α} {vs : List V}, AllA G vs (xs.map fun _ => aIs S) → ∃ ns : List Int, ns.length = xs.length ∧ (∀ n ∈ ns, S n) ∧ AllA G vs (ns.map aI)
  | [], _, .nil => ⟨[], rfl, fun n h => by simp at h, .nil⟩
  | x :: xs, _, .cons ⟨n, sn, h⟩ t => by
    obtain ⟨ns, h1, h2, h3⟩ := all_is t
    exact ⟨n :: ns, by rw [List.length_cons, List.length_cons, h1], fun m hm => (List.mem_cons.mp hm).elim (fun e => e ▸ sn) (h2 m), .cons h h3⟩
section
variable {P : Program} {w : World} {K : PySem.W.Frag} {mg : Str → Option Value} {base : Heap}
theorem gf__law_letters (T : Txt K mg) : GF P w K mg base CX0 "_law_letters" s__law_letters ["pool", "longest", "great"] 2 (spM (ι := Nat) (fun m p => oPool m p) (fun m p => oPool (m + 5) p) (fun m => m ≤ 2 ^ 50) (fun _ => [aI 2, aI 4]) (fun _ => aEx (Dm 2) aLI)) := by
  refine gf_mut (fun _ _ _ _ _ _ => oPool_pin) T.d__law_letters sc__law_letters (fun _ _ _ _ _ _ us hl => match us, hl with | [_, _, _], _ => rfl) (fun _ => rfl) fun m q hp f cdv B outer s H E C hr => ?_
  have hp : m ≤ 2 ^ 50 := hp
  refine x_last (y_ret (Γ1 := [.mu (oPool (m + 5) q), .im (aI 2), .im (aI 4), .no]) rfl (yfx_frz (R := fun z : Int => 0 ≤ z ∧ z < 3) (Qs := fun z => (List.range z.toNat).map fun _ => aIs fun r => 0 ≤ r ∧ r < 5) ?_) ?_ (Sub.mu rfl))
  · refine yf_lc (Γ1 := [.mu (oPool (m + 1) q), .im (aI 2), .im (aI 4), .no]) (α := Nat) (js := [3]) (own := [("turn", 3)]) (r := fun (j : Nat) => aI (j : Int)) (xs := fun z : Int => List.range z.toNat) (s := fun _ => aIs fun r => 0 ≤ r ∧ r < 5) (fun z i => [.mu (oPool (m + 1 + 2 * i) q), .im (aI 2), .im (aI 4), .no]) (fun z i x => [.mu (oPool (m + 1 + 2 * i) q), .im (aI 2), .im (aI 4), .im (aI (x : Int))]) (fun z i x => [.mu (oPool (m + 1 + 2 * i + 1 + 1) q), .im (aI 2), .im (aI 4), .im (aI (x : Int))]) C.cm C.nd ?_ (blkOk_by (by kernel_rfl)) (by decide) ?_ ?_ ?_ ?_ ?_ (fun _ => rfl) ?_
    · exact xj_r1 T.b_range (y_draw T C hr 0 ((x_add (x_var 1) x_int).eq (by rfl)) (hm := by omega)) (fun k hk => by omega)
    · exact fun _ => rfl
    · intro z i x
      show [En.mu _, _, _, _] = [En.mu _, _, _, _]
      rw [show m + 1 + 2 * i + 1 + 1 = m + 1 + 2 * (i + 1) by omega]
    · intro z i x _ _ s0 H0 C0 cl fp
      exact xg_name 3 C.nd
    · intro z hz
      rw [List.length_range]
      have : 3 < sizeLine := by decide
      omega
    · intro z i x hz hx s0 H0 C0 cl fp
      have hi : i < z.toNat := by
        obtain ⟨h1, _⟩ := List.getElem?_eq_some_iff.mp hx
        rwa [List.length_range] at h1
      refine y_menu (R := fun r => 0 ≤ r ∧ r < (3 : Int)) (Ps := [aI 0, aI 1, aIs fun r => 0 ≤ r ∧ r < (5 : Int)]) (y_lst (ya_cons x_int (ya_cons x_int (ya_cons (y_draw T C.blk hr 0 (m := m + 1 + 2 * i) ((x_add (x_var 2) x_int).eq (by rfl)) (hm := by omega)) ya_nil)))) (y_draw T C.blk hr 0 (m := m + 1 + 2 * i + 1) x_int (hm := by omega)) (fun r hr => by simp; omega) ?_
      intro Q hQ G v hv
      simp only [List.mem_cons, List.not_mem_nil, or_false] at hQ
      rcases hQ with e | e | e <;> subst e
      · exact ⟨0, by omega, hv⟩
      · exact ⟨1, by omega, hv⟩
      · exact hv
    · intro z hz
      refine Sub.les (.cons ?_ (.cons .rfl' (.cons .rfl' (.cons .rfl' .nil))))
      exact oPool_mono (by rw [List.length_range]; omega)
  · rintro G v ⟨z, hz, a, vs, e, g, hA⟩
    obtain ⟨ns, h1, h2, h3⟩ := all_is hA
    rw [List.length_range] at h1
    exact ⟨ns, ⟨by omega, h2⟩, a, vs, e, g, h3⟩
end
end K54
namespace K54
open PySem L2 PySem.Spec NS
theorem oLL_unpin {π : Option (Addr × List Addr)} {Pss : List (List As)} {v : V} {H : Hp} {G : Gh} {F : Addr → Prop} (h : (oLL π Pss).at' v H G F) : (oLL none Pss).at' v H G F := by
  obtain ⟨p, qs, e, _, r⟩ := h
  exact ⟨p, qs, e, (fun _ z => nomatch z), r⟩
theorem oLL_pin {Pss : List (List As)} {v : V} {H : Hp} {G : Gh} {F : Addr → Prop} (h : (oLL none Pss).at' v H G F) : ∃ x : Addr × List Addr, x.2.length = Pss.length ∧ (oLL (some x) Pss).at' v H G F := by
  obtain ⟨p, qs, e, _, hl, hn, r⟩ := h
  exact ⟨(p, qs), hn.len, p, qs, e, (fun x z => (Option.some.inj z).symm), hl, hn, r⟩
theorem cuts_mem : ∀ (n : Nat) (w : List Int) (c : List (List Int)), c ∈ cuts n w → ∀ l ∈ c, l.length ≤ w.length
  | 0, w, c, h => by
    have : c = [] := List.mem_singleton.mp h
    subst this
    exact fun l hl => by simp at hl
  | n + 1, w, c, h => by
    have h : c ∈ (if w = [] then [[]] else (List.range w.length).flatMap fun j => (cuts n (w.drop (1 + j))).map fun rest => w.take (1 + j) :: rest) := h
    split at h
    · have : c = [] := List.mem_singleton.mp h
      subst this
      exact fun l hl => by simp at hl
    · obtain ⟨j, hj, h⟩ := List.mem_flatMap.mp h
      obtain ⟨r, hr, rfl⟩ := List.mem_map.mp h
      intro l hl
      rcases List.mem_cons.mp hl with e | hl
      · subst e; rw [List.length_take]; exact Nat.min_le_right _ _
      · have := cuts_mem n _ r hr l hl
        rw [List.length_drop] at this
        omega
section
variable {P : Program} {w : World} {K : PySem.W.Frag} {mg : Str → Option Value} {base : Heap}
theorem kw_ff (T : Txt K mg) : True := trivial
theorem shown_word {l : List Int} (h : l.length ≤ 5) (hl : ∀ i ∈ l, 0 ≤ i ∧ i < 5) : (dLI l).shown.length ≤ 22 := by
  have := shown_L (f := fun i : Int => PyData.int i) (m := 2) (xs := l) fun i hi => shown_int (n := 1) (by decide) (by have := hl i hi; omega)
  show (PyData.shown (.list (l.map fun i => .int i))).length ≤ 22
  have h2 : l.length * (2 + 2) ≤ 5 * (2 + 2) := Nat.mul_le_mul_right _ h
  omega
theorem shown_words {ls : List (List Int)} (h : ls.length ≤ 5) (hl : ∀ l ∈ ls, l.length ≤ 5 ∧ ∀ i ∈ l, 0 ≤ i ∧ i < 5) : (PyData.list (ls.map dLI)).shown.length ≤ sizeLine := by
  have := shown_L (f := dLI) (m := 22) (xs := ls) fun l hm => shown_word (hl l hm).1 (hl l hm).2
  have h2 : ls.length * (22 + 2) ≤ 5 * (22 + 2) := Nat.mul_le_mul_right _ h
  have : 1000 < sizeLine := by decide
  omega
theorem showable_LI {l : List Int} (hl : ∀ i ∈ l, 0 ≤ i ∧ i < 5) : (dLI l).showable = true := by
  rw [PyData.showable]
  exact showable_all fun i hi => by
    rw [PyData.showable]
    have h := hl i hi
    have : i = 0 ∨ i = 1 ∨ i = 2 ∨ i = 3 ∨ i = 4 := by omega
    rcases this with e | e | e | e | e <;> subst e <;> decide
theorem showable_LL {ls : List (List Int)} (hl : ∀ l ∈ ls, ∀ i ∈ l, 0 ≤ i ∧ i < 5) : (PyData.list (ls.map dLI)).showable = true := by
  rw [PyData.showable]
  exact showable_all fun l hm => showable_LI (hl l hm)
theorem shp_LL {ls : List (List Int)} : Shp (PyData.list (ls.map dLI)) 2 := shp_L fun _ _ => shp_LI
theorem isD_LL {ls : List (List Int)} : IsD (aL (ls.map aLI)) (.list (ls.map dLI)) := isD_L fun _ _ => isD_LI
theorem inj_LL : Inj (fun ls : List (List Int) => PyData.list (ls.map dLI)) := inj_L (inj_L inj_I)
abbrev aLLI (ls : List (List Int)) : As := aL (ls.map aLI)
theorem map_aL (ls : List (List Int)) : (ls.map fun l => l.map aI).map aL = ls.map aLI := by rw [List.map_map]; rfl
theorem lendW {π : Option (Addr × List Addr)} {ls : List (List Int)} : Lend (oLL π (ls.map fun l => l.map aI)) (aLLI ls) := by
  show Lend _ (aL (ls.map aLI))
  rw [← map_aL]
  exact lend_LL
/-- the lines of which k were spoilt -/
def spoil (L : List (List Int)) (k : Nat) : List (List Int) := (L.take k).map (fun l => l ++ [9]) ++ L.drop k
theorem spoil_at {L : List (List Int)} {k : Nat} {l : List Int} (h : L[k]? = some l) : (spoil L k)[k]? = some l := by
  obtain ⟨h1, h2⟩ := List.getElem?_eq_some_iff.mp h
  unfold spoil
  rw [List.getElem?_append_right (by rw [List.length_map, List.length_take]; omega), List.length_map, List.length_take, Nat.min_eq_left (by omega), Nat.sub_self, List.getElem?_drop, Nat.add_zero, h]
theorem spoil_set {L : List (List Int)} {k : Nat} {l : List Int} (h : L[k]? = some l) : (spoil L k).set k (l ++ [9]) = spoil L (k + 1) := by
  obtain ⟨h1, h2⟩ := List.getElem?_eq_some_iff.mp h
  unfold spoil
  rw [List.set_append_right _ _ (by rw [List.length_map, List.length_take]; omega), List.length_map, List.length_take, Nat.min_eq_left (by omega), Nat.sub_self, List.drop_eq_getElem_cons h1, List.set_cons_zero, List.take_add_one, h, List.map_append]
  simp
/-- what falling gives, kept -/
theorem x_falling {X : Cx} {Γ : List En} {e : Expr} {i : List Int} (h : XOw X Γ e (oLL none ((fall i.length i).map fun l => l.map aI))) : XE X Γ e (aLLI (fall i.length i)) :=
  (x_ofO h (Sub.frzN 0 rfl)).eq (by rw [map_aL])
theorem gf__law_right (T : Txt K mg) : GF P w K mg base CX0 "_law_right" s__law_right ["pool"] 8 (spM (ι := Nat) (fun m p => oPool m p) (fun m p => oPool (m + 11) p) (fun m => m ≤ 2 ^ 50) (fun _ => []) (fun _ => aB true)) := by
  refine gf_mut (fun _ _ _ _ _ _ => oPool_pin) T.d__law_right sc__law_right (fun _ _ _ _ _ _ us hl => match us, hl with | [_], _ => rfl) (fun _ => rfl) fun m q hp f cdv B outer s H E C hr => ?_
  have hp : m ≤ 2 ^ 50 := hp
  have hr1 := hr.mono (show 1 ≤ 7 by decide)
  have hr3 := hr.mono (show 3 ≤ 7 by decide)
  refine x_cons [.mu (oPool (m + 11) q), .im (aEx (fun z : Int => 0 ≤ z ∧ z < 6) fun z => aL ((List.range z.toNat).map fun _ => aIs fun r => 0 ≤ r ∧ r < 5)), .no, .no, .no, .no, .no, .no, .no] (y_setC (R := fun z : Int => 0 ≤ z ∧ z < 6) (Qs := fun z => (List.range z.toNat).map fun _ => aIs fun r => 0 ≤ r ∧ r < 5) (Γ1 := [.mu (oPool (m + 11) q), .no, .no, .no, .no, .no, .no, .no, .no]) 1 C.cm C.nd ?_) ?_
  · refine yc_lc (Γ1 := [.mu (oPool (m + 1) q), .no, .no, .no, .no, .no, .no, .no, .no]) (α := Nat) (js := [2]) (own := [("turn", 2)]) (r := fun (j : Nat) => aI (j : Int)) (xs := fun z : Int => List.range z.toNat) (s := fun _ => aIs fun r => 0 ≤ r ∧ r < 5) (fun z i => [.mu (oPool (m + 1 + 2 * i) q), .no, .no, .no, .no, .no, .no, .no, .no]) (fun z i x => [.mu (oPool (m + 1 + 2 * i) q), .no, .im (aI (x : Int)), .no, .no, .no, .no, .no, .no]) (fun z i x => [.mu (oPool (m + 1 + 2 * i + 1 + 1) q), .no, .im (aI (x : Int)), .no, .no, .no, .no, .no, .no]) ?_ (blkOk_by (by kernel_rfl)) (by decide) ?_ ?_ ?_ ?_ ?_ (fun _ => rfl) ?_
    · exact xj_r1 T.b_range (y_draw T C hr1 0 x_int (hm := by omega)) (fun k hk => by omega)
    · exact fun _ => rfl
    · intro z i x
      show [En.mu _, _, _, _, _, _, _, _, _] = [En.mu _, _, _, _, _, _, _, _, _]
      rw [show m + 1 + 2 * i + 1 + 1 = m + 1 + 2 * (i + 1) by omega]
    · intro z i x _ _ s0 H0 C0 cl fp
      exact xg_name 2 C.nd
    · intro z hz
      rw [List.length_range]
      have : 6 < sizeLine := by decide
      omega
    · intro z i x hz hx s0 H0 C0 cl fp
      have hi : i < z.toNat := by
        obtain ⟨h1, _⟩ := List.getElem?_eq_some_iff.mp hx
        rwa [List.length_range] at h1
      refine EVs.imp (y_callMx (Γ1 := [.mu (oPool (m + 1 + 2 * i + 1) q), .no, .im (aI (x : Int)), .no, .no, .no, .no, .no, .no]) (β := Int) (fun a => (m + 1 + 2 * i + 1, 2 + a)) (fun a => 0 ≤ a ∧ a < 4) (Os := oPool (m + 1 + 2 * i + 1)) (Os' := oPool (m + 1 + 2 * i + 1 + 1)) (gf__law_draw T) C.blk hr1 (fun _ _ _ _ _ => oPool_pin) (fun _ _ _ _ _ => oPool_pin) 0 (fun _ _ => rfl) (fun _ _ => rfl) ?_ (Ps := [aIs fun r => 2 ≤ r ∧ r < 6]) (ya_cons (y_addI (R := (· = 2)) (S := fun a => 0 ≤ a ∧ a < 4) (y_is x_int) (y_draw T C.blk hr1 0 (m := m + 1 + 2 * i) x_int (hm := by omega)) (fun i j hi hj => by omega)) ya_nil) ?_ ⟨_, rfl, fun _ _ _ _ => oPool_pin⟩ rfl) ?_
      · intro a ha
        refine ⟨by show 1 ≤ 2 + a; omega, ?_, by show m + 1 + 2 * i + 1 ≤ 2 ^ 60; omega⟩
        show 2 + a < 2 ^ 8000
        exact Int.lt_trans (show 2 + a < 7 by omega) (by decide +kernel)
      · rintro G vs (_ | ⟨⟨a, ha, h⟩, t⟩)
        cases t
        refine ⟨a - 2, by omega, .cons ?_ .nil⟩
        show _ = V.int (2 + (a - 2))
        rw [show 2 + (a - 2) = a by omega]
        exact h
      · rintro G v ⟨a, ha, r, hr, h⟩
        refine ⟨r, ?_, h⟩
        have hr : 0 ≤ r ∧ r < 2 + a := hr
        omega
    · intro z hz
      refine Sub.les (.cons ?_ (.cons .rfl' (.cons .rfl' (.cons .rfl' (.cons .rfl' (.cons .rfl' (.cons .rfl' (.cons .rfl' (.cons .rfl' .nil)))))))))
      exact oPool_mono (by rw [List.length_range]; omega)
  refine ES.sub (Γ1 := [.mu (oPool (m + 11) q), .im (aEx (Dm 5) aLI), .no, .no, .no, .no, .no, .no, .no]) (Sub.les (.cons .rfl' (.cons (.imp ?_) (.cons .rfl' (.cons .rfl' (.cons .rfl' (.cons .rfl' (.cons .rfl' (.cons .rfl' (.cons .rfl' .nil)))))))))) ?_
  · rintro G v ⟨z, hz, a, vs, e, g, hA⟩
    obtain ⟨ns, h1, h2, h3⟩ := all_is hA
    rw [List.length_range] at h1
    exact ⟨ns, ⟨by omega, h2⟩, a, vs, e, g, h3⟩
  refine ES.ex 1 rfl fun i hi => ?_
  have fc := facts hi.1 hi.2
  have hw := hi.wd (by decide)
  -- same, due = list(letters), _law_is_first(letters)
  refine x_cons [.mu (oPool (m + 11) q), .im (aLI i), .no, .im (aLI i), .im (aB (isFst i)), .no, .no, .no, .no] (x_par 3 4 C.cm C.nd (xm_im (x_frz (xf_listL T.b_list (x_var 1))) (xm_im (x_call (gf__law_is_first T) C hr1 i hw.1 (xa_cons (x_var 1) xa_nil)) xm_nil))) ?_
  -- if repr(..) != repr(..)
  refine x_cons [.mu (oPool (m + 11) q), .im (aLI i), .no, .im (aLI i), .im (aB (isFst i)), .no, .no, .no, .no] (x_ifN ?_ xb_nil) ?_
  · have hd : IsD (aL [aB (isFst i), aB (isFst i)]) (.list [.bool (isFst i), .bool (isFst i)]) := isD_Lc (.cons isD_B (.cons isD_B .nil))
    have hsh : (PyData.list [.bool (isFst i), .bool (isFst i)]).showable = true := by simp only [PyData.showable, PyData.showableAll]; rfl
    have hsp : Shp (PyData.list [.bool (isFst i), .bool (isFst i)]) 60 := (shp_Lc (n := 0) (fun d hd => by
      simp only [List.mem_cons, List.not_mem_nil, or_false, or_self] at hd
      subst hd
      exact shp_B)).mono (by decide)
    have hz : (PyData.list [.bool (isFst i), .bool (isFst i)]).shown.length ≤ sizeLine := by
      cases isFst i <;> decide +kernel
    refine (xt_neS (x_repr C hr1 T.b_repr (x_lst (xa_cons (x_call (gf_is_fundamental T) C hr3 i hw (xa_cons (x_var 1) xa_nil)) (xa_cons (x_callK0 (gf_is_fundamental T) C hr3 i hw ["word"] (fun _ _ _ _ _ _ ws hl => match ws, hl with | [_], _ => rfl) (xk_cons (x_var 1) xk_nil)) xa_nil))) hd rfl hsh hsp hz) (x_repr C hr1 T.b_repr (x_lst (xa_cons (x_var 4) (xa_cons (x_var 4) xa_nil))) hd rfl hsh hsp hz)).eq ?_
    rw [decide_eq_true rfl]; rfl
  -- ways
  have e1 : ((cuts 5 i).filter isFall).map aLLI = [aLLI (fall i.length i)] := by rw [fc.one]; rfl
  refine x_cons [.mu (oPool (m + 11) q), .im (aLI i), .no, .im (aLI i), .im (aB (isFst i)), .im (aL [aLLI (fall i.length i)]), .no, .no, .no] (x_setC 5 C.cm C.nd (XC.eq ?_ e1)) ?_
  · refine xc_lcIf (α := List (List Int)) (js := [6]) (own := [("lines", 6)]) (xs := cuts 5 i) (r := aLLI) (b := isFall) (s := aLLI) (Γ' := fun c => [.mu (oPool (m + 11) q), .im (aLI i), .no, .im (aLI i), .im (aB (isFst i)), .no, .im (aLLI c), .no, .no]) ?_ (blkOk_by (by kernel_rfl)) (by decide) rfl (fun _ _ => rfl) ?_ ?_ ?_ ?_
    · exact xi_list (x_call (gf__law_all_cuts T 5 (by decide)) C (hr.mono (by decide)) i hi.1 (xa_cons (x_var 1) xa_nil))
    · intro x hx s0 H0 C0 cl fp
      exact xg_name 6 C.nd
    · have := cuts_len 5 i hi.1
      have h2 : 5 ^ 5 < sizeLine := by decide
      omega
    · intro c hc s0 H0 C0 cl fp
      refine xt_val (x_call (gf__law_is_falling T) C.blk (hr.mono (by decide)) c ⟨?_, ?_⟩ (xa_cons (x_var 6) xa_nil))
      · have := cuts_in 5 i c hc
        have := hi.1
        omega
      · intro l hl
        have := cuts_mem 5 i c hc l hl
        have := hi.1
        omega
    · intro c hc _ s0 H0 C0 cl fp
      exact x_var 6
  -- answer
  refine x_cons [.mu (oPool (m + 11) q), .im (aLI i), .no, .im (aLI i), .im (aB (isFst i)), .im (aL [aLLI (fall i.length i)]), .no, .mu (oLL none ((fall i.length i).map fun l => l.map aI)), .no] (x_setO 7 C.nd (xo_call (gf_falling T) C hr3 i hw (xa_cons (x_var 1) xa_nil))) ?_
  have hall : ∀ l ∈ fall i.length i, l.length ≤ 5 ∧ ∀ j ∈ l, 0 ≤ j ∧ j < 5 := fun l hl => (fc.all l hl).2.2
  have hD := isD_LL (ls := fall i.length i)
  have hsh := showable_LL (ls := fall i.length i) fun l hl => (hall l hl).2
  have hsp : Shp (PyData.list ((fall i.length i).map dLI)) 60 := shp_LL.mono (by decide)
  have hz := shown_words fc.len hall
  refine x_cons [.mu (oPool (m + 11) q), .im (aLI i), .no, .im (aLI i), .im (aB (isFst i)), .im (aL [aLLI (fall i.length i)]), .no, .mu (oLL none ((fall i.length i).map fun l => l.map aI)), .no] (x_ifN ?_ xb_nil) ?_
  · refine xt_lend (Γb := [.no, .im (aLI i), .no, .im (aLI i), .im (aB (isFst i)), .im (aL [aLLI (fall i.length i)]), .no, .im (aLLI (fall i.length i)), .no]) (.cons .no (.cons .im (.cons .no (.cons .im (.cons .im (.cons .im (.cons .no (.cons (.mu lendW) (.cons .no .nil))))))))) ?_
    refine xt_w (ETs.eq (xw_or (k := false) (l := false) ?_ fun _ => xw_or (k := false) (l := false) ?_ fun _ => xw_or1 (k := false) ?_) rfl)
    · exact (xt_neI (x_lenL (x := "len") T.b_len (x_var 5)) x_int).eq rfl
    · refine (xt_neS (x_repr C hr1 T.b_repr (x_var 7) hD rfl hsh hsp hz) (x_repr C hr1 T.b_repr (x_ixL (i := 0) (j := 0) (x_var 5) x_int rfl rfl) hD rfl hsh hsp hz)).eq ?_
      rw [decide_eq_true rfl]; rfl
    · refine (xt_neS (x_repr C hr1 T.b_repr (x_falling (xo_callK0 (gf_falling T) C hr3 i hw ["word"] (fun _ _ _ _ _ _ ws hl => match ws, hl with | [_], _ => rfl) (xk_cons (x_var 1) xk_nil))) hD rfl hsh hsp hz) (x_repr C hr1 T.b_repr (x_var 7) hD rfl hsh hsp hz)).eq ?_
      rw [decide_eq_true rfl]; rfl
  -- for line in answer
  let L := fall i.length i
  refine ES.mu (O' := fun x : Addr × List Addr => oLL (some x) (L.map fun l => l.map aI)) (R := fun x => x.2.length = L.length) 7 rfl (fun v H G F h => by
    obtain ⟨x, e, h⟩ := oLL_pin h
    exact ⟨x, by rw [e, List.length_map], h⟩) fun ⟨p, qs⟩ hx => ?_
  have hx : qs.length = L.length := hx
  have pinH : ∀ k v H G F, (oLL (some (p, qs)) ((spoil L k).map fun l => l.map aI)).at' v H G F → v = .ref p ∧ H p = some (.lst (qs.map V.ref)) := by
    rintro k v H G F ⟨p', qs', e, ep, hl, _⟩
    have ep := ep _ rfl
    cases ep
    exact ⟨e, hl⟩
  let inv : Nat → List En := fun k => [.mu (oPool (m + 11) q), .im (aLI i), .no, .im (aLI i), .im (aB (isFst i)), .im (aL [aLLI L]), .no, .mu (oLL (some (p, qs)) ((spoil L k).map fun l => l.map aI)), .no]
  refine x_cons [.mu (oPool (m + 11) q), .im (aLI i), .no, .im (aLI i), .im (aB (isFst i)), .im (aL [aLLI L]), .no, .mu (oLL none ((spoil L L.length).map fun l => l.map aI)), .no] (x_forP (O := oLL (some (p, qs)) ((spoil L 0).map fun l => l.map aI)) (q0 := p) (vs := qs.map V.ref) (js := [8]) 7 inv (fun k x => (inv k).set 8 (.im (aV x))) PassesOwn.never C.cm ?_ (pinH 0) (fun k => ⟨_, rfl, fun v H G F h => (pinH k v H G F h).2⟩) ?_ ?_ ?_ ?_) ?_
  · show some (En.mu (oLL (some (p, qs)) (L.map fun l => l.map aI))) = some (En.mu (oLL (some (p, qs)) ((spoil L 0).map fun l => l.map aI)))
    rfl
  · exact Sub.rfl'
  · intro k x _
    exact xg_name 8 C.nd
  · intro k x hk
    rw [List.getElem?_map] at hk
    obtain ⟨q', hq, ex⟩ := Option.map_eq_some_iff.mp hk
    subst ex
    obtain ⟨hk1, hk2⟩ := List.getElem?_eq_some_iff.mp hq
    have hl : L[k]? = some (L[k]'(by omega)) := List.getElem?_eq_getElem _
    generalize L[k]'(by omega) = l at hl
    have hm : l ∈ L := List.mem_of_getElem? hl
    obtain ⟨f1, f2, f3, f4⟩ := fc.all l hm
    have wl : Wd l := ⟨by omega, fun j hj => (f4 j hj).1⟩
    have hP : ((spoil L k).map fun l => l.map aI)[k]? = some (l.map aI) := by
      rw [List.getElem?_map, spoil_at hl]
      rfl
    refine x_cons ((inv k).set 8 (.im (aV (.ref q')))) (x_ifN ?_ xb_nil) ?_
    · refine lend_pick (Γb := [.no, .no, .no, .no, .no, .no, .no, .im (aLLp p qs ((spoil L k).map fun l => l.map aI)), .im (aV (.ref q'))]) (.cons .no (.cons .no (.cons .no (.cons .no (.cons .no (.cons .no (.cons .no (.cons (.mu lend_LLp) (.cons .im .nil))))))))) 7 8 rfl rfl hq hP ?_
      refine xt_w (ETs.eq (xw_or (k := false) (l := false) ?_ fun _ => xw_or1 (k := false) ?_) rfl)
      · exact ETs.eq (xt_not (xt_val (x_call (gf_is_fundamental T) C hr3 l wl (xa_cons (x_var 8) xa_nil)))) (by rw [f1]; rfl)
      · refine ETs.eq (xt_neD hr (x_falling (xo_call (gf_falling T) C hr3 l wl (xa_cons (x_var 8) xa_nil))) (x_lst (xa_cons (x_var 8) xa_nil)) isD_LL (isD_LL (ls := [l])) (shp_LL.ok (by decide)) (shp_LL.ok (by decide))) ?_
        rw [f2, inj_LL, decide_eq_true rfl]; rfl
    · refine x_cons _ (x_appendI 7 8 rfl rfl hq hP x_int ?_) (x_nil (Sub.les (.cons .rfl' (.cons .rfl' (.cons .rfl' (.cons .rfl' (.cons .rfl' (.cons .rfl' (.cons .rfl' (.cons (.ow ?_) (.cons .no' .nil)))))))))))
      · rw [List.length_map]
        have : 10 < sizeLine := by decide
        omega
      · rw [← spoil_set hl, List.map_set, List.map_append]
        rfl
  · refine Sub.les (.cons .rfl' (.cons .rfl' (.cons .rfl' (.cons .rfl' (.cons .rfl' (.cons .rfl' (.cons .rfl' (.cons (fun v H G F h => ?_) (.cons .rfl' .nil)))))))))
    rw [List.length_map, hx] at h
    exact oLL_unpin h
  · refine x_cons _ (x_appendN 7 rfl (xf_lst xa_nil) ?_) ?_
    · have h1 : (spoil L L.length).length = L.length := by
        unfold spoil
        rw [List.length_append, List.length_map, List.length_take, List.length_drop]
        omega
      rw [List.length_map, h1]
      have h2 : L.length ≤ 5 := fc.len
      have : 10 < sizeLine := by decide
      omega
    · refine x_last (x_ret rfl (P := aB (true && true)) (x_and (k := true) (l := true) ?_ fun _ => x_one ?_) (fun _ _ h => h) (Sub.mu rfl))
      · refine (x_eqD hr (x_falling (xo_call (gf_falling T) C hr3 i hw (xa_cons (x_var 1) xa_nil))) (x_ixL (i := 0) (j := 0) (x_var 5) x_int rfl rfl) isD_LL isD_LL (shp_LL.ok (by decide)) (shp_LL.ok (by decide))).eqB ?_
        rw [inj_LL, decide_eq_true rfl]
      · exact (x_eqLI hr (x_var 1) (x_var 3)).eqB (decide_eq_true rfl)
end
end K54
namespace K54
open PySem L2 PySem.Spec NS
section
variable {P : Program} {w : World} {K : PySem.W.Frag} {mg : Str → Option Value} {base : Heap}
theorem gf_law (T : Txt K mg) : GF P w K mg base CX0 "law" s_law ["script"] 9 (spLaw K) := by
  refine gf_pure T.d_law sc_law (fun _ _ _ _ _ _ us hl => match us, hl with | [_], _ => rfl) (fun _ => rfl) fun ns hp f cdv B outer s H E C hr => ?_
  have hp : ns.length ≤ 63 := hp
  have big : 1000 < sizeLine := by decide
  refine x_cons (Γ1 := [.im (ScrAt K ns), .no, .no, .no, .no, .no]) (x_for (α := Nat) (js := [1]) (xs := List.range (max 1 (min 6 (ns.length : Int))).toNat) (r := fun (j : Nat) => aI (j : Int)) (fun _ => [.im (ScrAt K ns), .no, .no, .no, .no, .no]) (fun _ j => [.im (ScrAt K ns), .im (aI (j : Int)), .no, .no, .no, .no]) PassesOwn.never C.cm ?_ Sub.rfl' ?_ ?_ Sub.rfl') (x_last (x_ret rfl (x_bl (i := true)) (fun _ _ h => h) (Sub.nos rfl)))
  · exact xi_r1 T.b_range (x_max2 C.cm T.b_max x_int (x_min2 C.cm T.b_min x_int (x_lenS T.b_len (x_var 0)))) (by omega) (by omega)
  · intro _ j _
    exact xg_name 1 C.nd
  · intro k j hk
    have hj : j ≤ 63 := by
      have h1 := List.mem_range.mp (List.mem_of_getElem? hk)
      omega
    refine x_cons [.im (ScrAt K ns), .im (aI (j : Int)), .mu oPool0, .no, .no, .no] (x_setO 2 C.nd (xo_call (gf__law_pool T) C (hr.mono (by decide)) (ns, j) ⟨hp, hj⟩ (xa_cons (x_var 0) (xa_cons (x_var 1) xa_nil)))) ?_
    refine ES.mu (O' := fun p => oPool 0 p) (R := fun _ => True) 2 rfl (fun v H G F ⟨p, h⟩ => ⟨p, trivial, h⟩) fun q _ => ?_
    refine x_cons [.im (ScrAt K ns), .im (aI (j : Int)), .mu (oPool 88 q), .no, .no, .no] ?_ ?_
    · refine x_for (α := Nat) (js := [3]) (xs := List.range (8 : Int).toNat) (r := fun (j : Nat) => aI (j : Int)) (fun t => [.im (ScrAt K ns), .im (aI (j : Int)), .mu (oPool (11 * t) q), .no, .no, .no]) (fun t l => [.im (ScrAt K ns), .im (aI (j : Int)), .mu (oPool (11 * t) q), .im (aI (l : Int)), .no, .no]) PassesOwn.never C.cm (xi_r1 T.b_range x_int (by decide) (by decide)) Sub.rfl' ?_ ?_ Sub.rfl'
      · intro t l _
        exact xg_name 3 C.nd
      · intro t l hl
        have ht : t < 8 := by
          obtain ⟨h1, _⟩ := List.getElem?_eq_some_iff.mp hl
          rwa [List.length_range] at h1
        refine x_cons [.im (ScrAt K ns), .im (aI (j : Int)), .mu (oPool (11 * t + 11) q), .im (aI (l : Int)), .no, .no] (y_ifS (k := false) (yt_not (k := true) (yt_val (y_callM (gf__law_right T) C hr (fun _ _ _ _ _ _ => oPool_pin) (fun _ _ _ _ _ _ => oPool_pin) 2 (11 * t) (by omega) ya_nil ⟨_, rfl, fun _ _ _ _ => oPool_pin⟩ rfl))) (fun z => nomatch z) fun _ => xb_nil) (x_nil (Sub.les (.cons .rfl' (.cons .rfl' (.cons (.ow ?_) (.cons .no' (.cons .no' (.cons .no' .nil))))))))
        rw [show 11 * t + 11 = 11 * (t + 1) by omega]
    · refine x_cons [.im (ScrAt K ns), .im (aI (j : Int)), .mu (oPool (88 + 5) q), .no, .im (aEx (Dm 2) aLI), .no] (y_set 4 C.nd (y_callM (gf__law_letters T) C (hr.mono (by decide)) (fun _ _ _ _ _ _ => oPool_pin) (fun _ _ _ _ _ _ => oPool_pin) 2 88 (by decide) (ya_cons x_int (ya_cons x_int ya_nil)) ⟨_, rfl, fun _ _ _ _ => oPool_pin⟩ rfl)) ?_
      refine ES.ex 4 rfl fun i hi => ?_
      have hw := hi.wd (by decide)
      have hr3 := hr.mono (show 3 ≤ 8 by decide)
      have fc := facts (Nat.le_trans hi.1 (by decide)) hi.2
      have fd := factsD hi.1 hi.2
      refine x_last (x_for (α := List Int) (js := [5]) (xs := fall i.length i) (r := aLI) (fun _ => [.im (ScrAt K ns), .no, .no, .no, .no, .no]) (fun _ l => [.im (ScrAt K ns), .no, .no, .no, .no, .im (aLI l)]) PassesOwn.never C.cm (xi_list (x_falling (xo_call (gf_falling T) C hr3 i hw (xa_cons (x_var 4) xa_nil)))) ?_ ?_ ?_ Sub.rfl')
      · exact Sub.les (.cons .rfl' (.cons .no' (.cons .no' (.cons .no' (.cons .no' (.cons .no' .nil))))))
      · intro k l _
        exact xg_name 5 C.nd
      · intro k l hk
        have hm := List.mem_of_getElem? hk
        obtain ⟨f1, f2, f3, f4⟩ := fc.all l hm
        obtain ⟨d1, d2⟩ := fd l hm
        have wl : Wd (l ++ l) := ⟨by rw [List.length_append]; omega, fun j hj => (List.mem_append.mp hj).elim (fun h => (f4 j h).1) fun h => (f4 j h).1⟩
        have e2 : (List.replicate (2 : Int).toNat (l.map aI)).flatten = (l ++ l).map aI := by
          rw [List.map_append]
          show l.map aI ++ (l.map aI ++ []) = _
          rw [List.append_nil]
        have hlen : (l.map aI).length * (2 : Int).toNat ≤ sizeLine := by
          rw [List.length_map]
          show l.length * 2 ≤ _
          omega
        refine x_cons [.im (ScrAt K ns), .no, .no, .no, .no, .im (aLI l)] (x_ifN ?_ xb_nil) (x_nil (Sub.les (.cons .rfl' (.cons .no' (.cons .no' (.cons .no' (.cons .no' (.cons .no' .nil))))))))
        refine xt_w (ETs.eq (xw_or (k := false) (l := false) ?_ fun _ => xw_or1 (k := false) ?_) rfl)
        · refine ETs.eq (xt_neD hr (x_falling (xo_call (gf_falling T) C hr3 (l ++ l) wl (xa_cons ((x_frz (xf_rep (x_var 5) x_int (by decide) (by decide) hlen)).eq (by rw [e2])) xa_nil))) (x_lst (xa_cons (x_var 5) (xa_cons (x_var 5) xa_nil))) isD_LL (isD_LL (ls := [l, l])) (shp_LL.ok (by decide)) (shp_LL.ok (by decide))) ?_
          rw [d1, inj_LL, decide_eq_true rfl]; rfl
        · exact ETs.eq (xt_val (x_call (gf_is_fundamental T) C hr3 (l ++ l) wl (xa_cons ((x_frz (xf_rep (x_var 5) x_int (by decide) (by decide) hlen)).eq (by rw [e2])) xa_nil))) d2
end
end K54
namespace K54
open PySem L2 PySem.Spec NS
theorem all_mk {K : PySem.W.Frag} {h : Heap} {mg : Str → Option Value} (X : K.In h) (G : h.Ns mainGlobals mg)
    {f4 f6 f7 f8 f9 f10 f12 f13 f14 f15 f16 f17 f18 f19 : Addr} {od4 an4 od6 an6 od7 an7 od8 an8 od9 an9 od10 an10 od12 an12 od13 an13 od14 an14 od15 an15 od16 an16 od17 an17 od18 an18 od19 an19 : Option Addr} {sl4 sl6 sl7 sl8 sl9 sl10 sl12 sl13 sl14 sl15 sl16 sl17 sl18 sl19 : Array (Option Value)} {oc4 kV4 dc4 pm4 cd4 ct4 oc6 kV6 dc6 pm6 cd6 ct6 oc7 kV7 dc7 pm7 cd7 ct7 oc8 kV8 dc8 pm8 cd8 ct8 oc9 kV9 dc9 pm9 cd9 ct9 oc10 kV10 dc10 pm10 cd10 ct10 oc12 kV12 dc12 pm12 cd12 ct12 oc13 kV13 dc13 pm13 cd13 ct13 oc14 kV14 dc14 pm14 cd14 ct14 oc15 kV15 dc15 pm15 cd15 ct15 oc16 kV16 dc16 pm16 cd16 ct16 oc17 kV17 dc17 pm17 cd17 ct17 oc18 kV18 dc18 pm18 cd18 ct18 oc19 kV19 dc19 pm19 cd19 ct19 : Value}
    (a4 : PySem.W.nsIn K mainGlobals "is_word" = some (some (.ref f4))) (l4 : K.lookup f4 = some ⟨oc4, od4, .func (PySem.W.fnOf "is_word" "is_word" (defArgs s_is_word) (defBody s_is_word) (defScope s_is_word) .none kV4 dc4 pm4 an4 cd4 ct4), sl4⟩) (c4 : PySem.W.codeIn K cd4 "is_word" = true) (k4 : PySem.W.keepIn K (.ref f4) = true)
    (a6 : PySem.W.nsIn K mainGlobals "check_word" = some (some (.ref f6))) (l6 : K.lookup f6 = some ⟨oc6, od6, .func (PySem.W.fnOf "check_word" "check_word" (defArgs s_check_word) (defBody s_check_word) (defScope s_check_word) .none kV6 dc6 pm6 an6 cd6 ct6), sl6⟩) (c6 : PySem.W.codeIn K cd6 "check_word" = true) (k6 : PySem.W.keepIn K (.ref f6) = true)
    (a7 : PySem.W.nsIn K mainGlobals "is_first" = some (some (.ref f7))) (l7 : K.lookup f7 = some ⟨oc7, od7, .func (PySem.W.fnOf "is_first" "is_first" (defArgs s_is_first) (defBody s_is_first) (defScope s_is_first) .none kV7 dc7 pm7 an7 cd7 ct7), sl7⟩) (c7 : PySem.W.codeIn K cd7 "is_first" = true) (k7 : PySem.W.keepIn K (.ref f7) = true)
    (a8 : PySem.W.nsIn K mainGlobals "falling_words" = some (some (.ref f8))) (l8 : K.lookup f8 = some ⟨oc8, od8, .func (PySem.W.fnOf "falling_words" "falling_words" (defArgs s_falling_words) (defBody s_falling_words) (defScope s_falling_words) .none kV8 dc8 pm8 an8 cd8 ct8), sl8⟩) (c8 : PySem.W.codeIn K cd8 "falling_words" = true) (k8 : PySem.W.keepIn K (.ref f8) = true)
    (a9 : PySem.W.nsIn K mainGlobals "is_fundamental" = some (some (.ref f9))) (l9 : K.lookup f9 = some ⟨oc9, od9, .func (PySem.W.fnOf "is_fundamental" "is_fundamental" (defArgs s_is_fundamental) (defBody s_is_fundamental) (defScope s_is_fundamental) .none kV9 dc9 pm9 an9 cd9 ct9), sl9⟩) (c9 : PySem.W.codeIn K cd9 "is_fundamental" = true) (k9 : PySem.W.keepIn K (.ref f9) = true)
    (a10 : PySem.W.nsIn K mainGlobals "falling" = some (some (.ref f10))) (l10 : K.lookup f10 = some ⟨oc10, od10, .func (PySem.W.fnOf "falling" "falling" (defArgs s_falling) (defBody s_falling) (defScope s_falling) .none kV10 dc10 pm10 an10 cd10 ct10), sl10⟩) (c10 : PySem.W.codeIn K cd10 "falling" = true) (k10 : PySem.W.keepIn K (.ref f10) = true)
    (a12 : PySem.W.nsIn K mainGlobals "_law_pool" = some (some (.ref f12))) (l12 : K.lookup f12 = some ⟨oc12, od12, .func (PySem.W.fnOf "_law_pool" "_law_pool" (defArgs s__law_pool) (defBody s__law_pool) (defScope s__law_pool) .none kV12 dc12 pm12 an12 cd12 ct12), sl12⟩) (c12 : PySem.W.codeIn K cd12 "_law_pool" = true) (k12 : PySem.W.keepIn K (.ref f12) = true)
    (a13 : PySem.W.nsIn K mainGlobals "_law_draw" = some (some (.ref f13))) (l13 : K.lookup f13 = some ⟨oc13, od13, .func (PySem.W.fnOf "_law_draw" "_law_draw" (defArgs s__law_draw) (defBody s__law_draw) (defScope s__law_draw) .none kV13 dc13 pm13 an13 cd13 ct13), sl13⟩) (c13 : PySem.W.codeIn K cd13 "_law_draw" = true) (k13 : PySem.W.keepIn K (.ref f13) = true)
    (a14 : PySem.W.nsIn K mainGlobals "_law_letters" = some (some (.ref f14))) (l14 : K.lookup f14 = some ⟨oc14, od14, .func (PySem.W.fnOf "_law_letters" "_law_letters" (defArgs s__law_letters) (defBody s__law_letters) (defScope s__law_letters) .none kV14 dc14 pm14 an14 cd14 ct14), sl14⟩) (c14 : PySem.W.codeIn K cd14 "_law_letters" = true) (k14 : PySem.W.keepIn K (.ref f14) = true)
    (a15 : PySem.W.nsIn K mainGlobals "_law_is_first" = some (some (.ref f15))) (l15 : K.lookup f15 = some ⟨oc15, od15, .func (PySem.W.fnOf "_law_is_first" "_law_is_first" (defArgs s__law_is_first) (defBody s__law_is_first) (defScope s__law_is_first) .none kV15 dc15 pm15 an15 cd15 ct15), sl15⟩) (c15 : PySem.W.codeIn K cd15 "_law_is_first" = true) (k15 : PySem.W.keepIn K (.ref f15) = true)
    (a16 : PySem.W.nsIn K mainGlobals "_law_all_cuts" = some (some (.ref f16))) (l16 : K.lookup f16 = some ⟨oc16, od16, .func (PySem.W.fnOf "_law_all_cuts" "_law_all_cuts" (defArgs s__law_all_cuts) (defBody s__law_all_cuts) (defScope s__law_all_cuts) .none kV16 dc16 pm16 an16 cd16 ct16), sl16⟩) (c16 : PySem.W.codeIn K cd16 "_law_all_cuts" = true) (k16 : PySem.W.keepIn K (.ref f16) = true)
    (a17 : PySem.W.nsIn K mainGlobals "_law_is_falling" = some (some (.ref f17))) (l17 : K.lookup f17 = some ⟨oc17, od17, .func (PySem.W.fnOf "_law_is_falling" "_law_is_falling" (defArgs s__law_is_falling) (defBody s__law_is_falling) (defScope s__law_is_falling) .none kV17 dc17 pm17 an17 cd17 ct17), sl17⟩) (c17 : PySem.W.codeIn K cd17 "_law_is_falling" = true) (k17 : PySem.W.keepIn K (.ref f17) = true)
    (a18 : PySem.W.nsIn K mainGlobals "_law_right" = some (some (.ref f18))) (l18 : K.lookup f18 = some ⟨oc18, od18, .func (PySem.W.fnOf "_law_right" "_law_right" (defArgs s__law_right) (defBody s__law_right) (defScope s__law_right) .none kV18 dc18 pm18 an18 cd18 ct18), sl18⟩) (c18 : PySem.W.codeIn K cd18 "_law_right" = true) (k18 : PySem.W.keepIn K (.ref f18) = true)
    (a19 : PySem.W.nsIn K mainGlobals "law" = some (some (.ref f19))) (l19 : K.lookup f19 = some ⟨oc19, od19, .func (PySem.W.fnOf "law" "law" (defArgs s_law) (defBody s_law) (defScope s_law) .none kV19 dc19 pm19 an19 cd19 ct19), sl19⟩) (c19 : PySem.W.codeIn K cd19 "law" = true) (k19 : PySem.W.keepIn K (.ref f19) = true)
    (z_ValueError : PySem.W.nsIn K mainGlobals "ValueError" = some none)
    (z_abs : PySem.W.nsIn K mainGlobals "abs" = some none)
    (z_all : PySem.W.nsIn K mainGlobals "all" = some none)
    (z_int : PySem.W.nsIn K mainGlobals "int" = some none)
    (z_len : PySem.W.nsIn K mainGlobals "len" = some none)
    (z_list : PySem.W.nsIn K mainGlobals "list" = some none)
    (z_max : PySem.W.nsIn K mainGlobals "max" = some none)
    (z_min : PySem.W.nsIn K mainGlobals "min" = some none)
    (z_range : PySem.W.nsIn K mainGlobals "range" = some none)
    (z_repr : PySem.W.nsIn K mainGlobals "repr" = some none)
    (z_super : PySem.W.nsIn K mainGlobals "super" = some none)
    : Txt K mg :=
  { d_is_word := defAt X G a4 l4 c4 k4,
    d_check_word := defAt X G a6 l6 c6 k6,
    d_is_first := defAt X G a7 l7 c7 k7,
    d_falling_words := defAt X G a8 l8 c8 k8,
    d_is_fundamental := defAt X G a9 l9 c9 k9,
    d_falling := defAt X G a10 l10 c10 k10,
    d__law_pool := defAt X G a12 l12 c12 k12,
    d__law_draw := defAt X G a13 l13 c13 k13,
    d__law_letters := defAt X G a14 l14 c14 k14,
    d__law_is_first := defAt X G a15 l15 c15 k15,
    d__law_all_cuts := defAt X G a16 l16 c16 k16,
    d__law_is_falling := defAt X G a17 l17 c17 k17,
    d__law_right := defAt X G a18 l18 c18 k18,
    d_law := defAt X G a19 l19 c19 k19,
    b_ValueError := PySem.W.mg_none_of X G z_ValueError,
    b_abs := PySem.W.mg_none_of X G z_abs,
    b_all := PySem.W.mg_none_of X G z_all,
    b_int := PySem.W.mg_none_of X G z_int,
    b_len := PySem.W.mg_none_of X G z_len,
    b_list := PySem.W.mg_none_of X G z_list,
    b_max := PySem.W.mg_none_of X G z_max,
    b_min := PySem.W.mg_none_of X G z_min,
    b_range := PySem.W.mg_none_of X G z_range,
    b_repr := PySem.W.mg_none_of X G z_repr,
    b_super := PySem.W.mg_none_of X G z_super }
theorem walk {l : PySem.W.OpenLaw} {q : Program} {loose : List Str} {XP : (Str → Option Value) → Heap → Prop} {YP : World → Heap → Prop} {d : DefRec} {K : Params → PySem.W.Frag} (hn : l.most = some 63) (hdf : d.params.defaults = []) (hnm : d.name = "law")
    (hY : ∀ (w : World) (h : Heap), YP w h → (K w.params).In h) (F : ∀ (w : World) (mg : Str → Option Value) (h : Heap), (K w.params).In h → h.Ns mainGlobals mg → Txt (K w.params) mg) :
    PySem.W.WalkO q loose XP YP l.row.toRowW d [] (fun f vs => PySem.call f vs) := by
  refine walkG (k := 9) (x := "script") hn hdf ⟨rfl, by decide, by decide⟩ hY fun w mg fa h KX G hmg => ?_
  have T := F w mg h KX G
  obtain ⟨f, fd, hm, F1⟩ := T.d_law.ex
  rw [hnm, hm] at hmg
  cases hmg
  refine ⟨fd, fun s u => ?_, fun base _ _ => ?_⟩
  · obtain ⟨oc, od, kV, doc, pm, an, cdv, ct, osl, rfl, _, _⟩ := F1.ex
    exact .of_eq rfl
  · obtain ⟨f', fd', hm', F1', _, G'⟩ := (gf_law (P := l.prog) (w := w) (base := base) T).ex
    rw [hm] at hm'
    cases hm'
    have e : fd = fd' := by
      obtain ⟨oc, od, kV, doc, pm, an, cdv, ct, osl, rfl, lk, _⟩ := F1.ex
      obtain ⟨oc2, od2, kV2, doc2, pm2, an2, cdv2, ct2, osl2, rfl, lk2, _⟩ := F1'.ex
      rw [lk] at lk2
      injection lk2 with e1
      injection e1 with _ _ e2 _
      injection e2
    subst e
    exact G'
end K54
open PySem PySem.W PyProof.Rows in
set_option maxRecDepth 100000 in
set_option maxHeartbeats 0 in
theorem PySem.Challenge.cw_nestsums_k54_fundamental_words_holds : PySem.Challenge.rw_nestsums_k54_fundamental_words.Holds := by
  w_on; o_law; k_head; (case hw => w_witness2)
  k_fill
  refine K54.walk (l := PySem.Challenge.rw_nestsums_k54_fundamental_words) rfl rfl rfl (fun w h Y => PySem.W.kIn_of Y) ?F
  case F =>
    intro w mg h KX G
    refine' K54.all_mk KX G ?a4 ?l4 ?c4 ?k4 ?a6 ?l6 ?c6 ?k6 ?a7 ?l7 ?c7 ?k7 ?a8 ?l8 ?c8 ?k8 ?a9 ?l9 ?c9 ?k9 ?a10 ?l10 ?c10 ?k10 ?a12 ?l12 ?c12 ?k12 ?a13 ?l13 ?c13 ?k13 ?a14 ?l14 ?c14 ?k14 ?a15 ?l15 ?c15 ?k15 ?a16 ?l16 ?c16 ?k16 ?a17 ?l17 ?c17 ?k17 ?a18 ?l18 ?c18 ?k18 ?a19 ?l19 ?c19 ?k19 ?z_ValueError ?z_abs ?z_all ?z_int ?z_len ?z_list ?z_max ?z_min ?z_range ?z_repr ?z_super
    (case a4 => k_is)
    (case l4 => k_is)
    (case c4 => k_is)
    (case k4 => k_is)
    (case a6 => k_is)
    (case l6 => k_is)
    (case c6 => k_is)
    (case k6 => k_is)
    (case a7 => k_is)
    (case l7 => k_is)
    (case c7 => k_is)
    (case k7 => k_is)
    (case a8 => k_is)
    (case l8 => k_is)
    (case c8 => k_is)
    (case k8 => k_is)
    (case a9 => k_is)
    (case l9 => k_is)
    (case c9 => k_is)
    (case k9 => k_is)
    (case a10 => k_is)
    (case l10 => k_is)
    (case c10 => k_is)
    (case k10 => k_is)
    (case a12 => k_is)
    (case l12 => k_is)
    (case c12 => k_is)
    (case k12 => k_is)
    (case a13 => k_is)
    (case l13 => k_is)
    (case c13 => k_is)
    (case k13 => k_is)
    (case a14 => k_is)
    (case l14 => k_is)
    (case c14 => k_is)
    (case k14 => k_is)
    (case a15 => k_is)
    (case l15 => k_is)
    (case c15 => k_is)
    (case k15 => k_is)
    (case a16 => k_is)
    (case l16 => k_is)
    (case c16 => k_is)
    (case k16 => k_is)
    (case a17 => k_is)
    (case l17 => k_is)
    (case c17 => k_is)
    (case k17 => k_is)
    (case a18 => k_is)
    (case l18 => k_is)
    (case c18 => k_is)
    (case k18 => k_is)
    (case a19 => k_is)
    (case l19 => k_is)
    (case c19 => k_is)
    (case k19 => k_is)
    (case z_ValueError => k_is)
    (case z_abs => k_is)
    (case z_all => k_is)
    (case z_int => k_is)
    (case z_len => k_is)
    (case z_list => k_is)
    (case z_max => k_is)
    (case z_min => k_is)
    (case z_range => k_is)
    (case z_repr => k_is)
    (case z_super => k_is)
