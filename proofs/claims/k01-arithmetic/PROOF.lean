import PyProof.Rows.All
import Wide.All
import OpenK.AllK
import Wide.FinOn
import HandS.ForMost
import HandS.Exc
import HandS.TryOnly
import HandS.TryMany
import HandS.ExcOwn
import HandS.WordsExc
import HandS.Wide
import HandS.WideBits
import HandS.Gcd
import HandS.OwnEq
import HandS.Property
import HandS.IsInst
import HandS.Flow
import HandS.Conv
import HandS.TupMul
import HandS.Style
import HandS.StrMore
import KE.KOpsOwn
import HandS.SlotsOwn
import HandS.ExcField
import HandS.Defaults
import HandS.CallRecv
import HandS.EndBits
import OpenK.XHead
import PySem.Challenge.RW_seriesroads_k01_arithmetic
set_option Elab.async false
set_option linter.all false
set_option maxRecDepth 100000
set_option maxHeartbeats 4000000
/-! S: a denotation for defs over plain data (D), and its rules over the hand layer -/
namespace L2.S
open PySem PySem.Spec PyProof.Rows

/-! ### plain data -/
inductive D where
  | non | bl (b : Bool) | int (i : Int) | str (l : List Nat)
  | tup (xs : List D) | lst (xs : List D) | ro (xs : List D) | obj (c : Nat) (xs : List D) | fn (k : Nat) | ty (n : String) | cls (c : Nat) | exv (a : Addr) (d : Option Addr) (c : Nat) (xs : List D)
/-- what a slot may own: a list, an instance being made -/
inductive OB where
  | l (xs : List D) | s (c : Nat) (xs : List D)
inductive SV where
  | un | val (d : D) | own (b : Bool) (o : OB)
inductive RV where
  | d (d : D) | o (o : OB)
structure Ex where
  c : Nat
  fs : List D
abbrev Env' := List SV
/-- an expression's outcome -/
inductive R where
  | ok (r : RV) (e : Env') | ex (x : Ex) (e : Env') | no
/-- an argument list's -/
inductive AV where
  | d (d : D) | s (i : Nat)
inductive RA where
  | ok (as : List AV) (e : Env') | ex (x : Ex) (e : Env') | no
/-- a test's -/
inductive RT where
  | ok (b : Bool) (e : Env') | ex (x : Ex) (e : Env') | no
/-- a statement's -/
inductive RS where
  | nx (e : Env') | bk (e : Env') | ct (e : Env') | rt (r : RV) (e : Env') | ex (x : Ex) (e : Env') | no
/-- a def's -/
inductive RD where
  | ok (r : RV) (outs : List OB) | ex (x : Ex) (outs : List OB) | no

/-- where things stand -/
structure Tb where
  K : PySem.W.Frag
  cl : Nat → Addr
  fl : Nat → List Str
  ec : Nat → Addr
  ef : Nat → List Str
  fn : Nat → Addr

mutual
inductive Rep (T : Tb) (Z : Hp) : V → D → Prop
  | non : Rep T Z .non .non
  | bl (b : Bool) : Rep T Z (.bl b) (.bl b)
  | int (i : Int) : Rep T Z (.int i) (.int i)
  | str (l : List Nat) : Rep T Z (.str ⟨l.toArray⟩) (.str l)
  | tup {a : Addr} {vs : List V} {ds : List D} (h : SqT T.K Z a vs) (r : Reps T Z vs ds) : Rep T Z (.ref a) (.tup ds)
  | lst {a : Addr} {vs : List V} {ds : List D} (h : Z a = some (.lst vs)) (r : Reps T Z vs ds) : Rep T Z (.ref a) (.lst ds)
  | ro {a : Addr} {vs : List V} {ds : List D} (h : SqL T.K Z a vs) (r : Reps T Z vs ds) : Rep T Z (.ref a) (.ro ds)
  | obj {a dx : Addr} {vs : List V} {c : Nat} {ds : List D} (h : Z a = some (.ins (T.cl c) dx ((T.fl c).zip vs))) (n : vs.length = (T.fl c).length) (r : Reps T Z vs ds) : Rep T Z (.ref a) (.obj c ds)
  | fn (k : Nat) : Rep T Z (.ref (T.fn k)) (.fn k)
  | ty (n : String) : Rep T Z (.ty n) (.ty n)
  | cls (k : Nat) : Rep T Z (.ref (T.cl k)) (.cls k)
  | exv0 {a : Addr} {c : Nat} : Rep T Z (.ref a) (.exv a none c [])
  | exv {a dd : Addr} {vs : List V} {c : Nat} {ds : List D} (h : Z dd = some (.xd ((T.ef c).zip vs))) (n : vs.length = (T.ef c).length) (r : Reps T Z vs ds) : Rep T Z (.ref a) (.exv a (some dd) c ds)
inductive Reps (T : Tb) (Z : Hp) : List V → List D → Prop
  | nil : Reps T Z [] []
  | cons {v : V} {d : D} {vs : List V} {ds : List D} (h : Rep T Z v d) (r : Reps T Z vs ds) : Reps T Z (v :: vs) (d :: ds)
end
theorem sqt_mono {K : PySem.W.Frag} {Z Z' : Hp} {a : Addr} {vs : List V} (s : Same Z Z') (h : SqT K Z a vs) : SqT K Z' a vs := by
  rcases h with (h | ⟨o, h⟩) | h
  · exact .inl (.inl (s _ _ h))
  · exact .inl (.inr ⟨o, s _ _ h⟩)
  · exact .inr h
mutual
theorem Rep.mono {T : Tb} {Z Z' : Hp} (s : Same Z Z') : ∀ {v : V} {d : D}, Rep T Z v d → Rep T Z' v d
  | _, _, .non => .non
  | _, _, .bl b => .bl b
  | _, _, .int i => .int i
  | _, _, .str l => .str l
  | _, _, .tup h r => .tup (sqt_mono s h) (Reps.mono s r)
  | _, _, .lst h r => .lst (s _ _ h) (Reps.mono s r)
  | _, _, .ro h r => .ro (s.seq h) (Reps.mono s r)
  | _, _, .obj h n r => .obj (s _ _ h) n (Reps.mono s r)
  | _, _, .fn k => .fn k
  | _, _, .ty k => .ty k
  | _, _, .cls k => .cls k
  | _, _, .exv0 => .exv0
  | _, _, .exv h n r => .exv (s _ _ h) n (Reps.mono s r)
theorem Reps.mono {T : Tb} {Z Z' : Hp} (s : Same Z Z') : ∀ {vs : List V} {ds : List D}, Reps T Z vs ds → Reps T Z' vs ds
  | _, _, .nil => .nil
  | _, _, .cons h r => .cons (Rep.mono s h) (Reps.mono s r)
end
section
variable {T : Tb} {Z : Hp}
theorem Reps.length : ∀ {vs : List V} {ds : List D}, Reps T Z vs ds → vs.length = ds.length
  | _, _, .nil => rfl
  | _, _, .cons _ r => by rw [List.length_cons, List.length_cons, Reps.length r]
theorem Reps.get : ∀ {vs : List V} {ds : List D} {i : Nat} {d : D}, Reps T Z vs ds → ds[i]? = some d → ∃ v, vs[i]? = some v ∧ Rep T Z v d
  | _, _, i, _, .nil, h => by simp at h
  | _, _, 0, _, .cons h r, e => by simp at e; subst e; exact ⟨_, rfl, h⟩
  | _, _, i + 1, _, .cons h r, e => by
    obtain ⟨v, h1, h2⟩ := Reps.get (i := i) r (by simpa using e)
    exact ⟨v, by simpa using h1, h2⟩
theorem Reps.get' : ∀ {vs : List V} {ds : List D} {i : Nat} {v : V}, Reps T Z vs ds → vs[i]? = some v → ∃ d, ds[i]? = some d ∧ Rep T Z v d
  | _, _, i, _, .nil, h => by simp at h
  | _, _, 0, _, .cons h r, e => by simp at e; subst e; exact ⟨_, rfl, h⟩
  | _, _, i + 1, _, .cons h r, e => by
    obtain ⟨v, h1, h2⟩ := Reps.get' (i := i) r (by simpa using e)
    exact ⟨v, by simpa using h1, h2⟩
theorem Reps.append : ∀ {vs ws : List V} {ds es : List D}, Reps T Z vs ds → Reps T Z ws es → Reps T Z (vs ++ ws) (ds ++ es)
  | _, _, _, _, .nil, q => q
  | _, _, _, _, .cons h r, q => .cons h (Reps.append r q)
theorem Reps.set {v : V} {d : D} (h : Rep T Z v d) : ∀ {vs : List V} {ds : List D} (i : Nat), Reps T Z vs ds → Reps T Z (vs.set i v) (ds.set i d)
  | _, _, _, .nil => .nil
  | _, _, 0, .cons _ r => .cons h r
  | _, _, i + 1, .cons g r => .cons g (Reps.set h i r)
theorem Reps.take : ∀ {vs : List V} {ds : List D} (n : Nat), Reps T Z vs ds → Reps T Z (vs.take n) (ds.take n)
  | _, _, 0, _ => .nil
  | _, _, _ + 1, .nil => .nil
  | _, _, n + 1, .cons h r => .cons h (Reps.take n r)
theorem Reps.drop : ∀ {vs : List V} {ds : List D} (n : Nat), Reps T Z vs ds → Reps T Z (vs.drop n) (ds.drop n)
  | _, _, 0, r => r
  | _, _, _ + 1, .nil => .nil
  | _, _, n + 1, .cons _ r => Reps.drop n r
theorem Reps.reverse {vs : List V} {ds : List D} (r : Reps T Z vs ds) : Reps T Z vs.reverse ds.reverse := by
  induction vs generalizing ds with
  | nil => cases r; exact .nil
  | cons v vs ih =>
    cases r with
    | cons h r =>
      rw [List.reverse_cons, List.reverse_cons]
      exact (ih r).append (.cons h .nil)
end

/-! ### owned things -/
def ORep (T : Tb) (Z : Hp) (h : HO) : OB → Prop
  | .l xs => ∃ vs, h = .lst vs ∧ Reps T Z vs xs
  | .s c xs => ∃ dx vs, h = .ins (T.cl c) dx ((T.fl c).zip vs) ∧ vs.length ≤ (T.fl c).length ∧ Reps T Z vs xs
theorem ORep.mono {T : Tb} {Z Z' : Hp} (s : Same Z Z') {h : HO} : ∀ {o : OB}, ORep T Z h o → ORep T Z' h o
  | .l _, ⟨vs, e, r⟩ => ⟨vs, e, r.mono s⟩
  | .s _ _, ⟨dx, vs, e, n, r⟩ => ⟨dx, vs, e, n, r.mono s⟩
/-- what stood at the entry, and what of it was fixed -/
structure Gd where
  g : Hp
  z : Hp
/-- slot i owns what stands at a -/
def Own (σ : St) (env : Env') (i : Nat) (a : Addr) : Prop := (∃ b o, env[i]? = some (.own b o)) ∧ σ[i]? = some (some (.ref a))
/-- the slots stand for env. G: what stood at the entry; B: the borrowed (slot, address); Z: what never changes -/
structure EOk (T : Tb) (G : Gd) (B : List (Nat × Addr)) (Z H : Hp) (σ : St) (env : Env') : Prop where
  len : σ.length = env.length
  sub : Same Z H
  nof : ∀ a, G.g a ≠ none → G.z a = none → Z a = none
  keep : ∀ a o, G.g a = some o → (∀ i, (i, a) ∉ B) → H a = some o
  val : ∀ (i : Nat) (d : D), env[i]? = some (.val d) → ∃ v, σ[i]? = some (some v) ∧ Rep T Z v d
  own : ∀ (i : Nat) (b : Bool) (o : OB), env[i]? = some (.own b o) → ∃ a h, σ[i]? = some (some (.ref a)) ∧ H a = some h ∧ ORep T Z h o ∧ Z a = none ∧ ((b = true ∧ (i, a) ∈ B) ∨ (b = false ∧ G.g a = none))
  bor : ∀ (i : Nat) (a : Addr), (i, a) ∈ B → (∃ o, env[i]? = some (.own true o)) ∧ σ[i]? = some (some (.ref a))
  dis : ∀ i j a, i ≠ j → Own σ env i a → ¬ Own σ env j a
/-- a result -/
def RRep (T : Tb) (G : Gd) (Z H : Hp) (σ : St) (env : Env') (v : V) : RV → Prop
  | .d d => Rep T Z v d
  | .o o => ∃ a h, v = .ref a ∧ H a = some h ∧ ORep T Z h o ∧ Z a = none ∧ G.g a = none ∧ ∀ i, ¬ Own σ env i a
/-- an exception -/
def XRep (T : Tb) (Z H : Hp) (cls : Value) (d : Option Addr) (x : Ex) : Prop :=
  cls = .ref (T.ec x.c) ∧ ((T.ef x.c = [] ∧ x.fs = [] ∧ d = none) ∨ (∃ dd vs, T.ef x.c ≠ [] ∧ d = some dd ∧ Z dd = some (.xd ((T.ef x.c).zip vs)) ∧ vs.length = (T.ef x.c).length ∧ Reps T Z vs x.fs))

/-- what is wanted of an outcome -/
def PR (T : Tb) (W : WX) (G : Gd) (B : List (Nat × Addr)) (Z : Hp) (σ : St) (Q : VK) : R → Prop
  | .ok r e => ∀ v H' Z', Same Z Z' → EOk T G B Z' H' σ e → RRep T G Z' H' σ e v r → Q v H'
  | .ex x e => ∀ cls d H' Z', Same Z Z' → EOk T G B Z' H' σ e → XRep T Z' H' cls d x → W cls d σ H'
  | .no => False
def tX (T : Tb) (W : WX) (f : Env' → R) : TE := fun σ H Q => ∃ G B Z env, EOk T G B Z H σ env ∧ PR T W G B Z σ Q (f env)
def SE (X : Cx) (T : Tb) (W : WX) (e : Expr) (f : Env' → R) : Prop := PE X e (tX T W f)
def PRT (T : Tb) (W : WX) (G : Gd) (B : List (Nat × Addr)) (Z : Hp) (σ : St) (Q : Bool → Hp → Prop) : RT → Prop
  | .ok b e => ∀ H' Z', Same Z Z' → EOk T G B Z' H' σ e → Q b H'
  | .ex x e => ∀ cls d H' Z', Same Z Z' → EOk T G B Z' H' σ e → XRep T Z' H' cls d x → W cls d σ H'
  | .no => False
def tXT (T : Tb) (W : WX) (f : Env' → RT) : TT := fun σ H Q => ∃ G B Z env, EOk T G B Z H σ env ∧ PRT T W G B Z σ Q (f env)
def ST (X : Cx) (T : Tb) (W : WX) (e : Expr) (f : Env' → RT) : Prop := PT X e (tXT T W f)
def AVOk (T : Tb) (Z : Hp) (σ : St) : List V → List AV → Prop
  | [], [] => True
  | v :: vs, .d d :: as => Rep T Z v d ∧ AVOk T Z σ vs as
  | v :: vs, .s i :: as => σ[i]? = some (some v) ∧ AVOk T Z σ vs as
  | _, _ => False
def PRA (T : Tb) (W : WX) (G : Gd) (B : List (Nat × Addr)) (Z : Hp) (σ : St) (Q : List V → Hp → Prop) : RA → Prop
  | .ok as e => ∀ vs H' Z', Same Z Z' → EOk T G B Z' H' σ e → AVOk T Z' σ vs as → Q vs H'
  | .ex x e => ∀ cls d H' Z', Same Z Z' → EOk T G B Z' H' σ e → XRep T Z' H' cls d x → W cls d σ H'
  | .no => False
def tXA (T : Tb) (W : WX) (f : Env' → RA) : TA := fun σ H Q => ∃ G B Z env, EOk T G B Z H σ env ∧ PRA T W G B Z σ Q (f env)
def SA (X : Cx) (T : Tb) (W : WX) (es : List Expr) (f : Env' → RA) : Prop := PA X es (tXA T W f)
def PRS (T : Tb) (W : WX) (G : Gd) (B : List (Nat × Addr)) (Z : Hp) (K : Ends) : RS → Prop
  | .nx e => ∀ σ' H' Z', Same Z Z' → EOk T G B Z' H' σ' e → K.nx σ' H'
  | .bk e => ∀ σ' H' Z', Same Z Z' → EOk T G B Z' H' σ' e → K.bk σ' H'
  | .ct e => ∀ σ' H' Z', Same Z Z' → EOk T G B Z' H' σ' e → K.ct σ' H'
  | .rt r e => ∀ v σ' H' Z', Same Z Z' → EOk T G B Z' H' σ' e → RRep T G Z' H' σ' e v r → K.rt v H'
  | .ex x e => ∀ cls d σ' H' Z', Same Z Z' → EOk T G B Z' H' σ' e → XRep T Z' H' cls d x → W cls d σ' H'
  | .no => False
def tXS (T : Tb) (W : WX) (f : Env' → RS) : TS := fun K σ H => ∃ G B Z env, EOk T G B Z H σ env ∧ PRS T W G B Z K (f env)
def SS (X : Cx) (T : Tb) (W : WX) (st : Stmt) (f : Env' → RS) : Prop := PS X st (tXS T W f)
def SSs (X : Cx) (T : Tb) (W : WX) (st : List Stmt) (f : Env' → RS) : Prop := PSs X st (tXS T W f)

/-! ### weakening -/
theorem PE.weak {X : Cx} {e : Expr} {t t' : TE} (h : PE X e t) (w : ∀ σ H Q, t' σ H Q → t σ H Q) : PE X e t' := ⟨fun pins s σ H Q I q => h.run pins s σ H Q I (w _ _ _ q)⟩
theorem PT.weak {X : Cx} {e : Expr} {t t' : TT} (h : PT X e t) (w : ∀ σ H Q, t' σ H Q → t σ H Q) : PT X e t' := ⟨fun pins s σ H Q I q => h.run pins s σ H Q I (w _ _ _ q)⟩
theorem PA.weak {X : Cx} {e : List Expr} {t t' : TA} (h : PA X e t) (w : ∀ σ H Q, t' σ H Q → t σ H Q) : PA X e t' := ⟨fun pos pins s σ H Q I q => h.run pos pins s σ H Q I (w _ _ _ q)⟩
theorem PS.weak {X : Cx} {e : Stmt} {t t' : TS} (h : PS X e t) (w : ∀ K σ H, t' K σ H → t K σ H) : PS X e t' := ⟨fun pins s σ H Q I q => h.run pins s σ H Q I (w _ _ _ q)⟩
theorem PSs.weak {X : Cx} {e : List Stmt} {t t' : TS} (h : PSs X e t) (w : ∀ K σ H, t' K σ H → t K σ H) : PSs X e t' := ⟨fun pins s σ H Q I q => h.run pins s σ H Q I (w _ _ _ q)⟩
section
variable {T : Tb} {W : WX} {G : Gd} {B : List (Nat × Addr)} {Z Z' H H' : Hp} {σ : St}
theorem PR.mono (s : Same Z Z') {Q : VK} : ∀ {r : R}, PR T W G B Z σ Q r → PR T W G B Z' σ Q r
  | .ok _ _, h => fun v H' Z'' s' e r => h v H' Z'' (s.trans s') e r
  | .ex _ _, h => fun c d H' Z'' s' e r => h c d H' Z'' (s.trans s') e r
  | .no, h => h
theorem PRT.mono (s : Same Z Z') {Q : Bool → Hp → Prop} : ∀ {r : RT}, PRT T W G B Z σ Q r → PRT T W G B Z' σ Q r
  | .ok _ _, h => fun H' Z'' s' e => h H' Z'' (s.trans s') e
  | .ex _ _, h => fun c d H' Z'' s' e r => h c d H' Z'' (s.trans s') e r
  | .no, h => h
theorem PRA.mono (s : Same Z Z') {Q : List V → Hp → Prop} : ∀ {r : RA}, PRA T W G B Z σ Q r → PRA T W G B Z' σ Q r
  | .ok _ _, h => fun v H' Z'' s' e r => h v H' Z'' (s.trans s') e r
  | .ex _ _, h => fun c d H' Z'' s' e r => h c d H' Z'' (s.trans s') e r
  | .no, h => h
theorem PRS.mono (s : Same Z Z') {K : Ends} : ∀ {r : RS}, PRS T W G B Z K r → PRS T W G B Z' K r
  | .nx _, h => fun σ' H' Z'' s' e => h σ' H' Z'' (s.trans s') e
  | .bk _, h => fun σ' H' Z'' s' e => h σ' H' Z'' (s.trans s') e
  | .ct _, h => fun σ' H' Z'' s' e => h σ' H' Z'' (s.trans s') e
  | .rt _ _, h => fun v σ' H' Z'' s' e r => h v σ' H' Z'' (s.trans s') e r
  | .ex _ _, h => fun c d σ' H' Z'' s' e r => h c d σ' H' Z'' (s.trans s') e r
  | .no, h => h
theorem AVOk.mono (s : Same Z Z') : ∀ {vs : List V} {as : List AV}, AVOk T Z σ vs as → AVOk T Z' σ vs as
  | [], [], _ => True.intro
  | _ :: _, .d _ :: _, h => ⟨h.1.mono s, AVOk.mono s h.2⟩
  | _ :: _, .s _ :: _, h => ⟨h.1, AVOk.mono s h.2⟩
  | [], .d _ :: _, h => h.elim
  | [], .s _ :: _, h => h.elim
  | _ :: _, [], h => h.elim
end

/-! ### heaps -/
section
variable {T : Tb} {G : Gd} {Z Z' H : Hp} {B : List (Nat × Addr)} {σ : St} {env : Env'} {p : Addr} {o : HO}
theorem EOk.gnone (E : EOk T G B Z H σ env) (h : H p = none) : G.g p = none := by
  cases q : G.g p with
  | none => rfl
  | some u =>
    by_cases hb : ∃ i, (i, p) ∈ B
    · obtain ⟨i, hb⟩ := hb
      obtain ⟨⟨o, e⟩, e2⟩ := E.bor i p hb
      obtain ⟨a, h', e3, e4, _⟩ := E.own i true o e
      rw [e2] at e3
      cases e3
      rw [e4] at h; cases h
    · have := E.keep p u q fun i hi => hb ⟨i, hi⟩
      rw [this] at h; cases h
theorem EOk.znone (E : EOk T G B Z H σ env) (h : H p = none) : Z p = none := E.sub.free h
theorem EOk.nown (E : EOk T G B Z H σ env) (h : H p = none) (i : Nat) : ¬ Own σ env i p := fun ⟨⟨b, o, e⟩, e2⟩ => by
  obtain ⟨a, h', e3, e4, _⟩ := E.own i b o e
  rw [e2] at e3
  cases e3
  rw [e4] at h; cases h
/-- a new object -/
theorem EOk.new (E : EOk T G B Z H σ env) (h : H p = none) : EOk T G B Z (upd H p o) σ env where
  len := E.len
  sub := fun a u q => by
    have := E.sub a u q
    rw [upd_ne (ne_of_none this h)]; exact this
  nof := E.nof
  keep := fun a u q n => by
    have := E.keep a u q n
    rw [upd_ne (ne_of_none this h)]; exact this
  val := E.val
  own := fun i b o e => by
    obtain ⟨a, h', e1, e2, r⟩ := E.own i b o e
    exact ⟨a, h', e1, by rw [upd_ne (ne_of_none e2 h)]; exact e2, r⟩
  bor := E.bor
  dis := E.dis
/-- what is not owned is fixed -/
theorem EOk.fix (E : EOk T G B Z H σ env) (h : H p = some o) (n : ∀ i, ¬ Own σ env i p) (hz : Z p = none) (hg : G.g p = none) : EOk T G B (upd Z p o) H σ env where
  len := E.len
  sub := fun a u q => by
    by_cases e : a = p
    · subst e; rw [upd_same] at q; cases q; exact h
    · rw [upd_ne e] at q; exact E.sub a u q
  nof := fun a h1 h2 => by
    rw [upd_ne fun e => h1 (by rw [e]; exact hg)]
    exact E.nof a h1 h2
  keep := E.keep
  val := fun i d e => by
    obtain ⟨v, e1, r⟩ := E.val i d e
    exact ⟨v, e1, r.mono fun a u q => by rw [upd_ne (ne_of_none q hz)]; exact q⟩
  own := fun i b u e => by
    obtain ⟨a, h', e1, e2, r, z, g⟩ := E.own i b u e
    refine ⟨a, h', e1, e2, r.mono fun a u q => by rw [upd_ne (ne_of_none q hz)]; exact q, ?_, g⟩
    rw [upd_ne fun q => n i ⟨⟨b, u, e⟩, by rw [← q]; exact e1⟩]
    exact z
  bor := E.bor
  dis := E.dis
theorem same_upd (h : Z p = none) : Same Z (upd Z p o) := fun a u q => by rw [upd_ne (ne_of_none q h)]; exact q
/-- a new list, to be owned -/
theorem new_list (E : EOk T G B Z H σ env) (h : H p = none) {vs : List V} {xs : List D} (r : Reps T Z vs xs) :
    EOk T G B Z (upd H p (.lst vs)) σ env ∧ RRep T G Z (upd H p (.lst vs)) σ env (.ref p) (.o (.l xs)) :=
  ⟨E.new h, p, _, rfl, upd_same, ⟨vs, rfl, r⟩, E.znone h, E.gnone h, E.nown h⟩
/-- a new tuple -/
theorem new_tup (E : EOk T G B Z H σ env) (h : H p = none) {vs : List V} {xs : List D} (r : Reps T Z vs xs) :
    Same Z (upd Z p (.tup vs)) ∧ EOk T G B (upd Z p (.tup vs)) (upd H p (.tup vs)) σ env ∧ Rep T (upd Z p (.tup vs)) (.ref p) (.tup xs) :=
  ⟨same_upd (E.znone h), (E.new h).fix upd_same (E.nown h) (E.znone h) (E.gnone h), .tup (SqT.of upd_same) (r.mono (same_upd (E.znone h)))⟩
end

/-! ### using a part's value -/
/-- a value, its list fixed -/
def fz : RV → Option D
  | .d d => some d
  | .o (.l xs) => some (.lst xs)
  | .o (.s c xs) => none
def R.bind (r : R) (k : D → Env' → R) : R :=
  match r with
  | .ok (.d d) e => k d e
  | .ok (.o (.l xs)) e => k (.lst xs) e
  | .ok (.o (.s _ _)) _ => .no
  | .ex x e => .ex x e
  | .no => .no
def R.bindT (r : R) (k : D → Env' → RT) : RT :=
  match r with
  | .ok (.d d) e => k d e
  | .ok (.o (.l xs)) e => k (.lst xs) e
  | .ok (.o (.s _ _)) _ => .no
  | .ex x e => .ex x e
  | .no => .no
def R.bindA (r : R) (k : D → Env' → RA) : RA :=
  match r with
  | .ok (.d d) e => k d e
  | .ok (.o (.l xs)) e => k (.lst xs) e
  | .ok (.o (.s _ _)) _ => .no
  | .ex x e => .ex x e
  | .no => .no
def R.bindS (r : R) (k : D → Env' → RS) : RS :=
  match r with
  | .ok (.d d) e => k d e
  | .ok (.o (.l xs)) e => k (.lst xs) e
  | .ok (.o (.s _ _)) _ => .no
  | .ex x e => .ex x e
  | .no => .no
/-- the value as it is (a new list is still to be owned) -/
def R.bindR (r : R) (k : RV → Env' → RS) : RS :=
  match r with
  | .ok r e => k r e
  | .ex x e => .ex x e
  | .no => .no
def RT.bind (r : RT) (k : Bool → Env' → R) : R :=
  match r with
  | .ok b e => k b e
  | .ex x e => .ex x e
  | .no => .no
def RT.bindT (r : RT) (k : Bool → Env' → RT) : RT :=
  match r with
  | .ok b e => k b e
  | .ex x e => .ex x e
  | .no => .no
def RT.bindS (r : RT) (k : Bool → Env' → RS) : RS :=
  match r with
  | .ok b e => k b e
  | .ex x e => .ex x e
  | .no => .no
def RA.bind (r : RA) (k : List AV → Env' → R) : R :=
  match r with
  | .ok as e => k as e
  | .ex x e => .ex x e
  | .no => .no
section
variable {T : Tb} {W : WX} {G : Gd} {B : List (Nat × Addr)} {Z H : Hp} {σ : St} {env : Env'} {f : Env' → R} {ft : Env' → RT} {fa : Env' → RA}
theorem frozen {Z' H' : Hp} {e : Env'} {v : V} {xs : List D} (E : EOk T G B Z' H' σ e) (r : RRep T G Z' H' σ e v (.o (.l xs))) : ∃ Z2, Same Z' Z2 ∧ EOk T G B Z2 H' σ e ∧ Rep T Z2 v (.lst xs) := by
  obtain ⟨a, h, rfl, e1, ⟨vs, rfl, rs⟩, e2, e3, n⟩ := r
  refine ⟨upd Z' a (.lst vs), same_upd e2, E.fix e1 n e2 e3, .lst upd_same (rs.mono (same_upd e2))⟩
theorem use {P : VK} {Z0 : Hp} (s0 : Same Z0 Z) (E : EOk T G B Z H σ env) (hok : ∀ r e, f env = .ok r e → ∀ v H' Z', Same Z0 Z' → EOk T G B Z' H' σ e → RRep T G Z' H' σ e v r → P v H')
    (hex : ∀ x e, f env = .ex x e → ∀ cls d H' Z', Same Z0 Z' → EOk T G B Z' H' σ e → XRep T Z' H' cls d x → W cls d σ H') (hno : f env ≠ .no) : tX T W f σ H P := by
  refine ⟨G, B, Z, env, E, ?_⟩
  cases q : f env with
  | ok r e => exact fun v H' Z' s' E' r' => hok r e q v H' Z' (s0.trans s') E' r'
  | ex x e => exact fun c d H' Z' s' E' r' => hex x e q c d H' Z' (s0.trans s') E' r'
  | no => exact (hno q).elim
/-- the value as data -/
theorem use_d {P : VK} (E : EOk T G B Z H σ env) {γ : Type} {bnd : R → (D → Env' → γ) → γ} {PP : γ → Prop} {k : D → Env' → γ} (h : PP (bnd (f env) k))
    (h1 : ∀ d e k, PP (bnd (.ok (.d d) e) k) → PP (k d e)) (h2 : ∀ xs e k, PP (bnd (.ok (.o (.l xs)) e) k) → PP (k (.lst xs) e)) (h3 : ∀ c xs e k, ¬ PP (bnd (.ok (.o (.s c xs)) e) k))
    (h4 : ∀ x e k, PP (bnd (.ex x e) k) → ∀ cls d H' Z', Same Z Z' → EOk T G B Z' H' σ e → XRep T Z' H' cls d x → W cls d σ H') (h5 : ∀ k, ¬ PP (bnd .no k))
    (go : ∀ v H1 Z1 e d, Same Z Z1 → EOk T G B Z1 H1 σ e → Rep T Z1 v d → PP (k d e) → P v H1) : tX T W f σ H P := by
  refine use (Same.refl _) E (fun r e q v H' Z' s E' r' => ?_) (fun x e q => ?_) (fun q => ?_)
  · rw [q] at h
    cases r with
    | d d => exact go v H' Z' e d s E' r' (h1 _ _ _ h)
    | o o =>
      cases o with
      | l xs =>
        obtain ⟨Z2, s2, E2, r2⟩ := frozen E' r'
        exact go v H' Z2 e _ (s.trans s2) E2 r2 (h2 _ _ _ h)
      | s c xs => exact (h3 _ _ _ _ h).elim
  · rw [q] at h
    exact h4 _ _ _ h
  · rw [q] at h
    exact (h5 _ h).elim
theorem useR {P Q : VK} {k : D → Env' → R} (E : EOk T G B Z H σ env) (h : PR T W G B Z σ Q ((f env).bind k))
    (go : ∀ v H1 Z1 e d, Same Z Z1 → EOk T G B Z1 H1 σ e → Rep T Z1 v d → PR T W G B Z1 σ Q (k d e) → P v H1) : tX T W f σ H P :=
  use_d (bnd := R.bind) (PP := PR T W G B Z σ Q) E h (fun _ _ _ q => q) (fun _ _ _ q => q) (fun _ _ _ _ q => q) (fun _ _ _ q => q) (fun _ q => q) fun v H1 Z1 e d s E' r q => go v H1 Z1 e d s E' r (q.mono s)
theorem useT {P : VK} {Q : Bool → Hp → Prop} {k : D → Env' → RT} (E : EOk T G B Z H σ env) (h : PRT T W G B Z σ Q ((f env).bindT k))
    (go : ∀ v H1 Z1 e d, Same Z Z1 → EOk T G B Z1 H1 σ e → Rep T Z1 v d → PRT T W G B Z1 σ Q (k d e) → P v H1) : tX T W f σ H P :=
  use_d (bnd := R.bindT) (PP := PRT T W G B Z σ Q) E h (fun _ _ _ q => q) (fun _ _ _ q => q) (fun _ _ _ _ q => q) (fun _ _ _ q => q) (fun _ q => q) fun v H1 Z1 e d s E' r q => go v H1 Z1 e d s E' r (q.mono s)
theorem useA {P : VK} {Q : List V → Hp → Prop} {k : D → Env' → RA} (E : EOk T G B Z H σ env) (h : PRA T W G B Z σ Q ((f env).bindA k))
    (go : ∀ v H1 Z1 e d, Same Z Z1 → EOk T G B Z1 H1 σ e → Rep T Z1 v d → PRA T W G B Z1 σ Q (k d e) → P v H1) : tX T W f σ H P :=
  use_d (bnd := R.bindA) (PP := PRA T W G B Z σ Q) E h (fun _ _ _ q => q) (fun _ _ _ q => q) (fun _ _ _ _ q => q) (fun _ _ _ q => q) (fun _ q => q) fun v H1 Z1 e d s E' r q => go v H1 Z1 e d s E' r (q.mono s)
theorem useS {P : VK} {K : Ends} {k : D → Env' → RS} (E : EOk T G B Z H σ env) (h : PRS T W G B Z K ((f env).bindS k))
    (go : ∀ v H1 Z1 e d, Same Z Z1 → EOk T G B Z1 H1 σ e → Rep T Z1 v d → PRS T W G B Z1 K (k d e) → P v H1) : tX T W f σ H P :=
  use_d (bnd := R.bindS) (PP := PRS T W G B Z K) E h (fun _ _ _ q => q) (fun _ _ _ q => q) (fun _ _ _ _ q => q) (fun _ _ _ q c d H' Z' s E r => q c d _ H' Z' s E r) (fun _ q => q) fun v H1 Z1 e d s E' r q => go v H1 Z1 e d s E' r (q.mono s)
theorem useRV {P : VK} {K : Ends} {k : RV → Env' → RS} (E : EOk T G B Z H σ env) (h : PRS T W G B Z K ((f env).bindR k))
    (go : ∀ v H1 Z1 e r, Same Z Z1 → EOk T G B Z1 H1 σ e → RRep T G Z1 H1 σ e v r → PRS T W G B Z1 K (k r e) → P v H1) : tX T W f σ H P := by
  refine use (Same.refl _) E (fun r e q v H' Z' s E' r' => ?_) (fun x e q => ?_) (fun q => ?_)
  · rw [q] at h
    exact go v H' Z' e r s E' r' (PRS.mono s (r := k r e) h)
  · rw [q] at h
    exact fun c d H' Z' s E r => h c d _ H' Z' s E r
  · rw [q] at h
    exact h.elim
theorem useTR {P : Bool → Hp → Prop} {Q : VK} {k : Bool → Env' → R} (E : EOk T G B Z H σ env) (h : PR T W G B Z σ Q ((ft env).bind k))
    (go : ∀ b H1 Z1 e, Same Z Z1 → EOk T G B Z1 H1 σ e → PR T W G B Z1 σ Q (k b e) → P b H1) : tXT T W ft σ H P := by
  refine ⟨G, B, Z, env, E, ?_⟩
  cases q : ft env with
  | ok b e =>
    rw [q] at h
    exact fun H' Z' s E' => go b H' Z' e s E' (PR.mono s (r := k b e) h)
  | ex x e =>
    rw [q] at h
    exact h
  | no => rw [q] at h; exact h.elim
theorem useTT {P Q : Bool → Hp → Prop} {k : Bool → Env' → RT} (E : EOk T G B Z H σ env) (h : PRT T W G B Z σ Q ((ft env).bindT k))
    (go : ∀ b H1 Z1 e, Same Z Z1 → EOk T G B Z1 H1 σ e → PRT T W G B Z1 σ Q (k b e) → P b H1) : tXT T W ft σ H P := by
  refine ⟨G, B, Z, env, E, ?_⟩
  cases q : ft env with
  | ok b e =>
    rw [q] at h
    exact fun H' Z' s E' => go b H' Z' e s E' (PRT.mono s (r := k b e) h)
  | ex x e =>
    rw [q] at h
    exact h
  | no => rw [q] at h; exact h.elim
theorem useTS {P : Bool → Hp → Prop} {K : Ends} {k : Bool → Env' → RS} (E : EOk T G B Z H σ env) (h : PRS T W G B Z K ((ft env).bindS k))
    (go : ∀ b H1 Z1 e, Same Z Z1 → EOk T G B Z1 H1 σ e → PRS T W G B Z1 K (k b e) → P b H1) : tXT T W ft σ H P := by
  refine ⟨G, B, Z, env, E, ?_⟩
  cases q : ft env with
  | ok b e =>
    rw [q] at h
    exact fun H' Z' s E' => go b H' Z' e s E' (PRS.mono s (r := k b e) h)
  | ex x e =>
    rw [q] at h
    exact fun c d H' Z' s E r => h c d _ H' Z' s E r
  | no => rw [q] at h; exact h.elim
theorem useAR {P : List V → Hp → Prop} {Q : VK} {k : List AV → Env' → R} (E : EOk T G B Z H σ env) (h : PR T W G B Z σ Q ((fa env).bind k))
    (go : ∀ vs H1 Z1 e as, Same Z Z1 → EOk T G B Z1 H1 σ e → AVOk T Z1 σ vs as → PR T W G B Z1 σ Q (k as e) → P vs H1) : tXA T W fa σ H P := by
  refine ⟨G, B, Z, env, E, ?_⟩
  cases q : fa env with
  | ok as e =>
    rw [q] at h
    exact fun vs H' Z' s E' r => go vs H' Z' e as s E' r (PR.mono s (r := k as e) h)
  | ex x e =>
    rw [q] at h
    exact h
  | no => rw [q] at h; exact h.elim
end
end L2.S

set_option Elab.async false
set_option linter.all false
set_option maxRecDepth 100000
set_option maxHeartbeats 4000000
namespace L2.S
open PySem PySem.Spec PyProof.Rows

/-! ### two values in a row -/
section
variable {X : Cx} {T : Tb} {W : WX} {a b c : Expr} {f g : Env' → R} {pos : Pos}
/-- the pair of values, as data -/
def two (p : D → D → Env' → R) (f g : Env' → R) : Env' → R := fun env => (f env).bind fun x e => (g e).bind fun y e' => p x y e'
def Two (T : Tb) (W : WX) (p : D → D → Env' → R) (σ : St) (Q : VK) (x y : V) (H : Hp) : Prop :=
  ∃ G B Z e dx dy, EOk T G B Z H σ e ∧ Rep T Z x dx ∧ Rep T Z y dy ∧ PR T W G B Z σ Q (p dx dy e)
theorem two_tX {p : D → D → Env' → R} {σ : St} {H : Hp} {Q : VK} (h : tX T W (two p f g) σ H Q) : tX T W f σ H fun x H1 => tX T W g σ H1 fun y H2 => Two T W p σ Q x y H2 := by
  obtain ⟨G, B, Z, env, E, h⟩ := h
  refine useR E h fun x H1 Z1 e dx s E1 r1 h1 => ?_
  exact useR E1 h1 fun y H2 Z2 e2 dy s2 E2 r2 h2 => ⟨G, B, Z2, e2, dx, dy, E2, r1.mono s2, r2, h2⟩

/-- a two-place operation on values does what p says of data -/
def Op2 (X : Cx) (T : Tb) (sem : Value → Value → Sem Value) (p : D → D → Option RV) : Prop :=
  ∀ (pins : List (Addr × Obj)) (s : Shared) (σ : St) (H : Hp) (x y : V) (v u : Value) (Q : VK) (G : Gd) (B : List (Nat × Addr)) (Z : Hp) (σ' : St) (env : Env') (dx dy : D) (r : RV),
    Inv X pins σ H s → RelV x v → RelV y u → EOk T G B Z H σ' env → Rep T Z x dx → Rep T Z y dy → p dx dy = some r →
    (∀ v H' Z', Same Z Z' → EOk T G B Z' H' σ' env → RRep T G Z' H' σ' env v r → Q v H') → wpAny (model X.prog X.w) X.A (sem v u) (EP X pins σ Q) X.xe s
def ofOp (p : D → D → Option RV) : D → D → Env' → R := fun x y e => match p x y with | some r => .ok r e | none => .no
def cOp (p : D → D → Option RV) (f g : Env' → R) : Env' → R := two (ofOp p) f g
theorem Two.op {sem : Value → Value → Sem Value} {p : D → D → Option RV} (ho : Op2 X T sem p) {pins : List (Addr × Obj)} {s : Shared} {σ : St} {H : Hp} {x y : V} {v u : Value} {Q : VK}
    (I : Inv X pins σ H s) (rx : RelV x v) (ry : RelV y u) (h : Two T W (ofOp p) σ Q x y H) : wpAny (model X.prog X.w) X.A (sem v u) (EP X pins σ Q) X.xe s := by
  obtain ⟨G, B, Z, e, dx, dy, E, r1, r2, h⟩ := h
  unfold ofOp at h
  cases q : p dx dy with
  | none => rw [q] at h; exact h.elim
  | some r =>
    rw [q] at h
    exact ho pins s σ H x y v u Q G B Z σ e dx dy r I rx ry E r1 r2 q h
theorem se_bin {op : Operator} {p : D → D → Option RV} (ho : Op2 X T (binaryOp op) p) (ha : SE X T W a f) (hb : SE X T W b g) : SE X T W (.BinOp a op b pos) (cOp p f g) := by
  refine ⟨fun pins s σ H Q I h => ?_⟩
  exact wpAny_BinOp (binT ha hb I (two_tX h) fun v u s2 x y H2 I2 rx ry q => q.op ho I2 rx ry)
theorem se_cmp {op : CmpOp} {p : D → D → Option RV} (ho : Op2 X T (compareOp op) p) (ha : SE X T W a f) (hb : SE X T W b g) (hm : behindInMarks op b = false) : SE X T W (.Compare a [op] [b] pos) (cOp p f g) := by
  refine ⟨fun pins s σ H Q I h => ?_⟩
  exact wpAny_Compare1 (binT ha hb I (two_tX h) fun v u s2 x y H2 I2 rx ry q => q.op ho I2 rx ry) hm
/-- by cases: the first that speaks -/
def orP (p q : D → D → Option RV) : D → D → Option RV := fun x y => match p x y with | some r => some r | none => q x y
theorem Op2.or {sem : Value → Value → Sem Value} {p q : D → D → Option RV} (h : Op2 X T sem p) (k : Op2 X T sem q) : Op2 X T sem (orP p q) := by
  intro pins s σ H x y v u Q G B Z σ' env dx dy r I rx ry E r1 r2 e c
  unfold orP at e
  cases z : p dx dy with
  | some w =>
    rw [z] at e; cases e
    exact h pins s σ H x y v u Q G B Z σ' env dx dy r I rx ry E r1 r2 z c
  | none =>
    rw [z] at e
    exact k pins s σ H x y v u Q G B Z σ' env dx dy r I rx ry E r1 r2 e c

/-! ### constants, names -/
def cK (d : D) : Env' → R := fun e => .ok (.d d) e
theorem se_k {e : Expr} {v : V} {d : D} (h : PE X e (tC v)) (r : ∀ Z, Rep T Z v d) : SE X T W e (cK d) := PE.weak h fun σ H Q ⟨G, B, Z, env, E, q⟩ => q v H Z (Same.refl _) E (r Z)
theorem se_int {i : Int} {j} : SE X T W (.Constant (.int i) j pos) (cK (.int i)) := se_k pe_int fun _ => .int i
theorem se_bl {i : Bool} {j} : SE X T W (.Constant (.bool i) j pos) (cK (.bl i)) := se_k pe_bl fun _ => .bl i
theorem se_non {j} : SE X T W (.Constant .none j pos) (cK .non) := se_k pe_non fun _ => .non
theorem se_str {x : Str} {l : List Nat} {j} (h : x = ⟨l.toArray⟩ := by rfl) : SE X T W (.Constant (.str x) j pos) (cK (.str l)) := by
  subst h
  exact se_k pe_str fun _ => .str l
/-- the value of slot i; an own list is fixed -/
def cV (i : Nat) : Env' → R := fun e =>
  match e[i]? with
  | some (.val d) => .ok (.d d) e
  | some (.own false (.l xs)) => .ok (.d (.lst xs)) (e.set i (.val (.lst xs)))
  | _ => .no
section
variable {G : Gd} {Z H : Hp} {B : List (Nat × Addr)} {σ : St} {env : Env'} {i : Nat}
/-- an own list that is fixed -/
theorem EOk.frz (E : EOk T G B Z H σ env) {xs : List D} (h : env[i]? = some (.own false (.l xs))) :
    ∃ a Z', σ[i]? = some (some (.ref a)) ∧ Same Z Z' ∧ EOk T G B Z' H σ (env.set i (.val (.lst xs))) ∧ Rep T Z' (.ref a) (.lst xs) := by
  obtain ⟨a, ho, e1, e2, ⟨vs, e3, r⟩, e4, e5⟩ := E.own i false _ h
  subst e3
  have hi : i < env.length := (List.getElem?_eq_some_iff.mp h).1
  have own' : ∀ j b, Own σ (env.set i (.val (.lst xs))) j b → j ≠ i ∧ Own σ env j b := fun j b ⟨⟨b1, o, q⟩, q2⟩ => by
    by_cases hj : i = j
    · subst hj
      rw [List.getElem?_set_self hi] at q
      cases q
    · rw [List.getElem?_set_ne hj] at q
      exact ⟨fun z => hj z.symm, ⟨b1, o, q⟩, q2⟩
  have s : Same Z (upd Z a (.lst vs)) := same_upd e4
  have ga : G.g a = none := by
    rcases e5 with ⟨z, _⟩ | ⟨_, z⟩
    · cases z
    · exact z
  refine ⟨a, upd Z a (.lst vs), e1, s, ⟨?_, fun b u q => ?_, fun b h1 h2 => by rw [upd_ne fun e => h1 (by rw [e]; exact ga)]; exact E.nof b h1 h2, E.keep, fun j d q => ?_, fun j b o q => ?_, fun j b q => ?_, fun j k b n o1 o2 => ?_⟩, .lst upd_same (r.mono s)⟩
  · rw [List.length_set]; exact E.len
  · by_cases e : b = a
    · subst e; rw [upd_same] at q; cases q; exact e2
    · rw [upd_ne e] at q; exact E.sub b u q
  · by_cases hj : i = j
    · subst hj
      rw [List.getElem?_set_self hi] at q
      cases q
      exact ⟨_, e1, .lst upd_same (r.mono s)⟩
    · rw [List.getElem?_set_ne hj] at q
      obtain ⟨v, q1, q2⟩ := E.val j d q
      exact ⟨v, q1, q2.mono s⟩
  · by_cases hj : i = j
    · subst hj
      rw [List.getElem?_set_self hi] at q
      cases q
    · rw [List.getElem?_set_ne hj] at q
      obtain ⟨c, h', q1, q2, q3, q4, q5⟩ := E.own j b o q
      refine ⟨c, h', q1, q2, q3.mono s, ?_, q5⟩
      rw [upd_ne fun z => E.dis i j a hj ⟨⟨_, _, h⟩, e1⟩ ⟨⟨_, _, q⟩, by rw [← z]; exact q1⟩]
      exact q4
  · obtain ⟨⟨o, q1⟩, q2⟩ := E.bor j b q
    refine ⟨⟨o, ?_⟩, q2⟩
    rw [List.getElem?_set_ne fun z => by rw [← z, h] at q1; cases q1]
    exact q1
  · exact E.dis j k b n (own' j b o1).2 (own' k b o2).2
end
theorem se_v (i : Nat) {x : Str} (hN : X.N[i]? = some x := by rfl) (hv : Vis X.env.scope x := by first | exact Or.inl rfl | exact Or.inr (Or.inl rfl) | exact Or.inr (Or.inr rfl)) (hd : (x == ("__debug__" : Str)) = false := by decide)
    (hcd : (x == ("__classdict__" : Str)) = false := by decide) : SE X T W (.Name x pos) (cV i) := by
  refine PE.weak (pe_var hN hv hd hcd) fun σ H Q ⟨G, B, Z, env, E, q⟩ => ?_
  unfold cV at q
  cases h : env[i]? with
  | none => rw [h] at q; exact q.elim
  | some w =>
    rw [h] at q
    cases w with
    | un => exact q.elim
    | val d =>
      obtain ⟨v, e1, r⟩ := E.val i d h
      exact ⟨v, e1, q v H Z (Same.refl _) E r⟩
    | own b o =>
      cases b with
      | true => exact q.elim
      | false =>
        cases o with
        | s c xs => exact q.elim
        | l xs =>
          obtain ⟨a, Z', e1, s, E', r⟩ := E.frz h
          exact ⟨_, e1, q _ H Z' s E' r⟩

/-! ### tests -/
def truthD : D → Option Bool
  | .non => some false
  | .bl b => some b
  | .int i => some (i != 0)
  | .str l => if l.length ≤ 16777216 then some (!l.isEmpty) else none
  | .tup xs => some (!xs.isEmpty)
  | .lst xs => some (!xs.isEmpty)
  | .ro xs => some (!xs.isEmpty)
  | _ => none
def cTr (f : Env' → R) : Env' → RT := fun env => (f env).bindT fun d e => match truthD d with | some b => .ok b e | none => .no
theorem Reps.isEmpty {Z : Hp} {vs : List V} {ds : List D} (r : Reps T Z vs ds) : vs.isEmpty = ds.isEmpty := by
  cases r <;> rfl
theorem tru_rep (hT : X.K = T.K) {G : Gd} {Z H : Hp} {B : List (Nat × Addr)} {σ : St} {env : Env'} {v : V} {d : D} {b : Bool} (E : EOk T G B Z H σ env) (r : Rep T Z v d) (e : truthD d = some b) : TruV X.K v H b := by
  cases r with
  | non => cases e; rfl
  | bl c => cases e; rfl
  | int i => cases e; rfl
  | str l =>
    have e' : (if l.length ≤ 16777216 then some (!l.isEmpty) else none) = some b := e
    split at e'
    · rename_i hl
      cases e'
      refine ⟨by rw [sizeLine_eq]; exact hl, ?_⟩
      show (!l.isEmpty) = _
      cases l <;> simp [Str.length, Int.natCast_add] <;> omega
    · cases e'
  | tup h r => cases e; exact .inr (.inl ⟨_, by rw [hT]; exact sqt_mono E.sub h, by rw [r.isEmpty]⟩)
  | lst h r => cases e; exact .inl ⟨_, SqL.of (E.sub _ _ h), by rw [r.isEmpty]⟩
  | ro h r => cases e; exact .inl ⟨_, by rw [hT]; exact E.sub.seq h, by rw [r.isEmpty]⟩
  | obj h n r => cases e
  | fn k => cases e
  | ty k => cases e
  | cls k => cases e
  | exv0 => cases e
  | exv _ _ _ => cases e
/-- any expression whose test is its value's truth -/
theorem st_tr (hT : X.K = T.K) (ha : SE X T W a f) (he : ∀ whole, isTrue a X.env whole = (do let v ← whole; standAt a.pos; holding [v] (truthy v)) := by intro _; rfl) : ST X T W a (cTr f) := by
  refine PT.weak (pt_truth ha he) fun σ H Q ⟨G, B, Z, env, E, q⟩ => ?_
  refine useT E q fun v H1 Z1 e d s E1 r q1 => ?_
  cases h : truthD d with
  | none => rw [h] at q1; exact q1.elim
  | some b =>
    rw [h] at q1
    exact ⟨b, tru_rep hT E1 r h, q1 H1 Z1 (Same.refl _) E1⟩
/-- a comparison as a test -/
theorem st_cmp {op : CmpOp} {p : D → D → Option RV} (hT : X.K = T.K) (ho : Op2 X T (compareOp op) p) (ha : SE X T W a f) (hb : SE X T W b g) (hm : behindInMarks op b = false) : ST X T W (.Compare a [op] [b] pos) (cTr (cOp p f g)) := by
  refine ⟨fun pins s σ H Q I h => ?_⟩
  have h' : tX T W (cOp p f g) σ H fun v H1 => ∃ k, TruV X.K v H1 k ∧ Q k H1 := by
    obtain ⟨G, B, Z, env, E, q⟩ := h
    refine useT E q fun v H1 Z1 e d s E1 r q1 => ?_
    cases h : truthD d with
    | none => rw [h] at q1; exact q1.elim
    | some b =>
      rw [h] at q1
      exact ⟨b, tru_rep hT E1 r h, q1 H1 Z1 (Same.refl _) E1⟩
  refine wpAny_isTrue_Compare1 (binT ha hb I (two_tX h') fun v u s2 x y H2 I2 rx ry q => thn (q.op ho I2 rx ry) fun c s3 ⟨z, H3, I3, r3, q3⟩ => tru_ok pins s3 σ H3 z c Q I3 r3 q3) hm
def cAndT (t u : Env' → RT) : Env' → RT := fun env => (t env).bindT fun b e => if b then u e else .ok false e
def cOrT (t u : Env' → RT) : Env' → RT := fun env => (t env).bindT fun b e => if b then .ok true e else u e
def cNotT (t : Env' → RT) : Env' → RT := fun env => (t env).bindT fun b e => .ok (!b) e
variable {t u : Env' → RT} {rest : List Expr}
/-- a test whatever its whole is -/
def SW (X : Cx) (T : Tb) (W : WX) (e : Expr) (f : Env' → RT) : Prop := PW X e (tXT T W f)
theorem SW.st (h : SW X T W a t) : ST X T W a t := PW.pt h
theorem sw_and1 (ha : ST X T W a t) : SW X T W (.BoolOp .And [a] pos) t := pw_and1 ha
theorem sw_or1 (ha : ST X T W a t) : SW X T W (.BoolOp .Or [a] pos) t := pw_or1 ha
theorem PW.weak {e : Expr} {t t' : TT} (h : PW X e t) (w : ∀ σ H Q, t' σ H Q → t σ H Q) : PW X e t' := ⟨fun wh pins s σ H Q I q => h.run wh pins s σ H Q I (w _ _ _ q)⟩
theorem sw_and (ha : ST X T W a t) (hb : SW X T W (.BoolOp .And (b :: rest) pos) u) : SW X T W (.BoolOp .And (a :: b :: rest) pos) (cAndT t u) := by
  refine PW.weak (pw_and ha hb) fun σ H Q ⟨G, B, Z, env, E, q⟩ => ?_
  refine useTT E q fun b H1 Z1 e s E1 q1 => ?_
  cases b with
  | true => exact ⟨G, B, Z1, e, E1, q1⟩
  | false => exact q1 H1 Z1 (Same.refl _) E1
theorem sw_or (ha : ST X T W a t) (hb : SW X T W (.BoolOp .Or (b :: rest) pos) u) : SW X T W (.BoolOp .Or (a :: b :: rest) pos) (cOrT t u) := by
  refine PW.weak (pw_or ha hb) fun σ H Q ⟨G, B, Z, env, E, q⟩ => ?_
  refine useTT E q fun b H1 Z1 e s E1 q1 => ?_
  cases b with
  | true => exact q1 H1 Z1 (Same.refl _) E1
  | false => exact ⟨G, B, Z1, e, E1, q1⟩
theorem st_not (ha : ST X T W a t) : ST X T W (.UnaryOp .Not a pos) (cNotT t) := by
  refine PT.weak (pt_not ha) fun σ H Q ⟨G, B, Z, env, E, q⟩ => ?_
  exact useTT E q fun b H1 Z1 e s E1 q1 => q1 H1 Z1 (Same.refl _) E1
/-! as values -/
def asB (f : Env' → R) (k : Bool → Env' → R) : Env' → R := fun env => (f env).bind fun d e => match d with | .bl b => k b e | _ => .no
def cAnd (f g : Env' → R) : Env' → R := asB f fun b e => if b then g e else .ok (.d (.bl false)) e
def cOr (f g : Env' → R) : Env' → R := asB f fun b e => if b then .ok (.d (.bl true)) e else g e
def cNot (f : Env' → R) : Env' → R := asB f fun b e => .ok (.d (.bl (!b))) e
theorem use_b {f : Env' → R} {k : Bool → Env' → R} {G : Gd} {Z H : Hp} {B : List (Nat × Addr)} {σ : St} {env : Env'} {P Q : VK} (E : EOk T G B Z H σ env) (h : PR T W G B Z σ Q (asB f k env))
    (go : ∀ b H1 Z1 e, Same Z Z1 → EOk T G B Z1 H1 σ e → PR T W G B Z1 σ Q (k b e) → P (.bl b) H1) : tX T W f σ H P := by
  refine useR E h fun v H1 Z1 e d s E1 r q1 => ?_
  cases r with
  | bl b => exact go b H1 Z1 e s E1 q1
  | _ => exact q1.elim
theorem se_one {op} (h : SE X T W a f) : SE X T W (.BoolOp op [a] pos) f := pe_one h
theorem se_and (ha : SE X T W a f) (hb : SE X T W (.BoolOp .And (b :: rest) pos) g) : SE X T W (.BoolOp .And (a :: b :: rest) pos) (cAnd f g) := by
  refine PE.weak (pe_and ha hb) fun σ H Q ⟨G, B, Z, env, E, q⟩ => ?_
  refine use_b E q fun b H1 Z1 e s E1 q1 => ⟨b, rfl, ?_⟩
  cases b with
  | true => exact ⟨G, B, Z1, e, E1, q1⟩
  | false => exact q1 _ H1 Z1 (Same.refl _) E1 (.bl false)
theorem se_or (ha : SE X T W a f) (hb : SE X T W (.BoolOp .Or (b :: rest) pos) g) : SE X T W (.BoolOp .Or (a :: b :: rest) pos) (cOr f g) := by
  refine PE.weak (pe_or ha hb) fun σ H Q ⟨G, B, Z, env, E, q⟩ => ?_
  refine use_b E q fun b H1 Z1 e s E1 q1 => ⟨b, rfl, ?_⟩
  cases b with
  | true => exact q1 _ H1 Z1 (Same.refl _) E1 (.bl true)
  | false => exact ⟨G, B, Z1, e, E1, q1⟩
theorem se_not (ha : SE X T W a f) : SE X T W (.UnaryOp .Not a pos) (cNot f) := by
  refine PE.weak (pe_not ha) fun σ H Q ⟨G, B, Z, env, E, q⟩ => ?_
  exact use_b E q fun b H1 Z1 e s E1 q1 => ⟨b, rfl, q1 _ H1 Z1 (Same.refl _) E1 (.bl _)⟩
def cIf (t : Env' → RT) (f g : Env' → R) : Env' → R := fun env => (t env).bind fun b e => if b then f e else g e
theorem se_if (hc : ST X T W c t) (ha : SE X T W a f) (hb : SE X T W b g) : SE X T W (.IfExp c a b pos) (cIf t f g) := by
  refine PE.weak (pe_ifExp hc ha hb) fun σ H Q ⟨G, B, Z, env, E, q⟩ => ?_
  refine useTR E q fun b H1 Z1 e s E1 q1 => ?_
  cases b with
  | true => exact ⟨G, B, Z1, e, E1, q1⟩
  | false => exact ⟨G, B, Z1, e, E1, q1⟩

/-! ### argument lists, displays -/
variable {es : List Expr} {fa : Env' → RA}
def cA0 : Env' → RA := fun e => .ok [] e
def cAd (f : Env' → R) (fa : Env' → RA) : Env' → RA := fun env => (f env).bindA fun d e => match fa e with | .ok as e' => .ok (.d d :: as) e' | .ex x e' => .ex x e' | .no => .no
/-- the list that slot i owns, lent -/
def cAs (i : Nat) (fa : Env' → RA) : Env' → RA := fun env => match env[i]? with
  | some (.own _ _) => match fa env with | .ok as e' => .ok (.s i :: as) e' | .ex x e' => .ex x e' | .no => .no
  | _ => .no
theorem sa_0 : SA X T W [] cA0 := PA.weak pa_nil fun σ H Q ⟨G, B, Z, env, E, q⟩ => q [] H Z (Same.refl _) E True.intro
theorem sa_d (ha : SE X T W a f) (hr : SA X T W es fa) (hs : starEach (a :: es) X.env = (false, eval a X.env) :: starEach es X.env := by rfl) : SA X T W (a :: es) (cAd f fa) := by
  refine PA.weak (pa_cons ha hr hs) fun σ H Q ⟨G, B, Z, env, E, q⟩ => ?_
  refine useA E q fun v H1 Z1 e d s E1 r q1 => ⟨G, B, Z1, e, E1, ?_⟩
  cases h : fa e with
  | ok as e' =>
    rw [h] at q1
    exact fun vs H2 Z2 s2 E2 r2 => q1 (v :: vs) H2 Z2 s2 E2 ⟨r.mono s2, r2⟩
  | ex x e' => rw [h] at q1; exact q1
  | no => rw [h] at q1; exact q1
theorem sa_s (i : Nat) {x : Str} (hr : SA X T W es fa) (hN : X.N[i]? = some x := by rfl) (hv : Vis X.env.scope x := by first | exact Or.inl rfl | exact Or.inr (Or.inl rfl) | exact Or.inr (Or.inr rfl)) (hd : (x == ("__debug__" : Str)) = false := by decide)
    (hcd : (x == ("__classdict__" : Str)) = false := by decide) (hs : starEach (.Name x pos :: es) X.env = (false, eval (.Name x pos) X.env) :: starEach es X.env := by rfl) : SA X T W (.Name x pos :: es) (cAs i fa) := by
  refine PA.weak (pa_cons (pe_var hN hv hd hcd) hr hs) fun σ H Q ⟨G, B, Z, env, E, q⟩ => ?_
  unfold cAs at q
  cases h : env[i]? with
  | none => rw [h] at q; exact q.elim
  | some w =>
    rw [h] at q
    cases w with
    | un => exact q.elim
    | val d => exact q.elim
    | own b o =>
      obtain ⟨p, ho, e1, _⟩ := E.own i b o h
      refine ⟨_, e1, G, B, Z, env, E, ?_⟩
      cases h2 : fa env with
      | ok as e' =>
        rw [h2] at q
        exact fun vs H2 Z2 s2 E2 r2 => q (.ref p :: vs) H2 Z2 s2 E2 ⟨e1, r2⟩
      | ex x e' => rw [h2] at q; exact q
      | no => rw [h2] at q; exact q
/-- all data -/
def avD : List AV → Option (List D)
  | [] => some []
  | .d d :: as => (avD as).map (d :: ·)
  | .s _ :: _ => none
theorem AVOk.reps {Z : Hp} {σ : St} : ∀ {vs : List V} {as : List AV} {ds : List D}, AVOk T Z σ vs as → avD as = some ds → Reps T Z vs ds
  | [], [], _, _, e => by cases e; exact .nil
  | v :: vs, .d d :: as, ds, h, e => by
    have e' : (avD as).map (d :: ·) = some ds := e
    cases q : avD as with
    | none => rw [q] at e'; cases e'
    | some r => rw [q] at e'; cases e'; exact .cons h.1 (AVOk.reps h.2 q)
  | _ :: _, .s _ :: _, _, _, e => by cases e
  | [], .d _ :: _, _, h, _ => h.elim
  | [], .s _ :: _, _, h, _ => h.elim
  | _ :: _, [], _, h, _ => h.elim
def cTup (fa : Env' → RA) : Env' → R := fun env => (fa env).bind fun as e => match avD as with | some ds => if ds.length ≤ 16777216 then .ok (.d (.tup ds)) e else .no | none => .no
def cLst (fa : Env' → RA) : Env' → R := fun env => (fa env).bind fun as e => match avD as with | some ds => if ds.length ≤ 16777216 then .ok (.o (.l ds)) e else .no | none => .no
theorem se_tup {k} (h : SA X T W es fa) : SE X T W (.Tuple es k pos) (cTup fa) := by
  refine PE.weak (pe_tup h) fun σ H Q ⟨G, B, Z, env, E, q⟩ => ?_
  refine useAR E q fun vs H1 Z1 e as s E1 r q1 => ?_
  cases hd : avD as with
  | none => rw [hd] at q1; exact q1.elim
  | some ds =>
    rw [hd] at q1
    dsimp only at q1
    have rs := r.reps hd
    by_cases hl : ds.length ≤ 16777216
    · rw [if_pos hl] at q1
      refine ⟨by rw [rs.length, sizeLine_eq]; exact hl, fun p hp => ?_⟩
      obtain ⟨s2, E2, r2⟩ := new_tup E1 hp rs
      exact q1 _ _ _ s2 E2 r2
    · rw [if_neg hl] at q1; exact q1.elim
theorem se_lst (h : SA X T W es fa) : SE X T W (.List es pos) (cLst fa) := by
  refine PE.weak (pe_lst h) fun σ H Q ⟨G, B, Z, env, E, q⟩ => ?_
  refine useAR E q fun vs H1 Z1 e as s E1 r q1 => ?_
  cases hd : avD as with
  | none => rw [hd] at q1; exact q1.elim
  | some ds =>
    rw [hd] at q1
    dsimp only at q1
    have rs := r.reps hd
    by_cases hl : ds.length ≤ 16777216
    · rw [if_pos hl] at q1
      refine ⟨by rw [rs.length, sizeLine_eq]; exact hl, fun p hp => ?_⟩
      obtain ⟨E2, r2⟩ := new_list E1 hp rs
      exact q1 _ _ _ (Same.refl _) E2 r2
    · rw [if_neg hl] at q1; exact q1.elim
end
end L2.S

set_option Elab.async false
set_option linter.all false
set_option maxRecDepth 100000
set_option maxHeartbeats 4000000
namespace L2.S
open PySem PySem.Spec PyProof.Rows TL
section
variable {X : Cx} {T : Tb}
/-! ### operators on ints -/
/-- by a rule of the layer that leaves the heap -/
theorem op_flat {sem : Value → Value → Sem Value} {p : D → D → Option RV} {r : R2} (ho : OpR X sem r)
    (h : ∀ (G : Gd) (B : List (Nat × Addr)) (Z H : Hp) (σ : St) (env : Env') (x y : V) (dx dy : D) (w : RV) (Q : VK), EOk T G B Z H σ env → Rep T Z x dx → Rep T Z y dy → p dx dy = some w →
      (∀ v H' Z', Same Z Z' → EOk T G B Z' H' σ env → RRep T G Z' H' σ env v w → Q v H') → r x y H Q) : Op2 X T sem p :=
  fun pins s σ H x y v u Q G B Z σ' env dx dy w I rx ry E r1 r2 e c => ho pins s σ H x y v u Q I rx ry (h G B Z H σ' env x y dx dy w Q E r1 r2 e c)
def pI (C : Int → Int → Bool) (g : Int → Int → D) : D → D → Option RV := fun x y => match x, y with | .int i, .int j => if C i j then some (.d (g i j)) else none | _, _ => none
theorem pI_inv {C : Int → Int → Bool} {g : Int → Int → D} {x y : D} {w : RV} (h : pI C g x y = some w) : ∃ i j, x = .int i ∧ y = .int j ∧ C i j = true ∧ w = .d (g i j) := by
  unfold pI at h
  split at h
  · split at h
    · rename_i c
      exact ⟨_, _, rfl, rfl, c, (Option.some.inj h).symm⟩
    · cases h
  · cases h
theorem op_pI {sem : Value → Value → Sem Value} {C : Int → Int → Bool} {g : Int → Int → D} {gv : Int → Int → V} {Cp : Int → Int → Prop} (ho : OpR X sem (rI Cp gv)) (hC : ∀ i j, C i j = true → Cp i j) (hg : ∀ Z i j, C i j = true → Rep T Z (gv i j) (g i j)) : Op2 X T sem (pI C g) :=
  op_flat ho fun G B Z H σ env x y dx dy w Q E r1 r2 e c => by
    obtain ⟨i, j, rfl, rfl, hc, rfl⟩ := pI_inv e
    cases r1
    cases r2
    exact ⟨i, j, rfl, rfl, hC i j hc, c _ H Z (Same.refl _) E (hg Z i j hc)⟩
theorem op_pI0 {sem : Value → Value → Sem Value} {g : Int → Int → D} {gv : Int → Int → V} (ho : OpR X sem (rI0 gv)) (hg : ∀ Z i j, Rep T Z (gv i j) (g i j)) : Op2 X T sem (pI (fun _ _ => true) g) :=
  op_flat ho fun G B Z H σ env x y dx dy w Q E r1 r2 e c => by
    obtain ⟨i, j, rfl, rfl, hc, rfl⟩ := pI_inv e
    cases r1
    cases r2
    exact ⟨i, j, rfl, rfl, c _ H Z (Same.refl _) E (hg Z i j)⟩
def T2 : Int → Int → Bool := fun _ _ => true
def pAddI := pI T2 fun i j => .int (i + j)
def pSubI := pI T2 fun i j => .int (i - j)
/-- factors of together less than 10^8 bits -/
def mulOk (i j : Int) : Bool := decide (i.natAbs.log2 + j.natAbs.log2 < 100000000)
def pMulI := pI mulOk fun i j => .int (i * j)
def divOk (_ j : Int) : Bool := decide (0 < j) && decide (j.natAbs.log2 < 9000)
def pDivI := pI divOk fun i j => .int (i / j)
def posOk (_ j : Int) : Bool := decide (0 < j)
def pModI := pI posOk fun i j => .int (i % j)
def powOk (i j : Int) : Bool := decide (0 ≤ j) && (decide (j ≤ 1000000) && decide (i.natAbs < 2 ^ 64))
def pPowI := pI powOk fun i j => .int (i ^ j.toNat)
theorem o_addI : Op2 X T (binaryOp .Add) pAddI := op_pI0 op_add fun Z i j => .int _
theorem o_subI : Op2 X T (binaryOp .Sub) pSubI := op_pI0 op_sub fun Z i j => .int _
theorem o_mulI : Op2 X T (binaryOp .Mult) pMulI := op_pI op_mulX (fun i j h => by
    have h := of_decide_eq_true h
    unfold CMulX Builtin.Int.intBits
    split <;> split <;> omega) fun Z i j _ => .int _
theorem o_divI : Op2 X T (binaryOp .FloorDiv) pDivI := op_pI op_fdivW (fun i j h => by
    unfold divOk at h
    rw [Bool.and_eq_true] at h
    exact ⟨of_decide_eq_true h.1, of_decide_eq_true h.2⟩) fun Z i j _ => .int _
theorem o_modI : Op2 X T (binaryOp .Mod) pModI := op_pI op_mod (fun i j h => of_decide_eq_true h) fun Z i j _ => .int _
theorem o_powI : Op2 X T (binaryOp .Pow) pPowI := op_pI op_pow (fun i j h => by
    unfold powOk at h
    rw [Bool.and_eq_true, Bool.and_eq_true] at h
    exact ⟨of_decide_eq_true h.1, of_decide_eq_true h.2.1, of_decide_eq_true h.2.2⟩) fun Z i j _ => .int _
def pLtI := pI T2 fun i j => .bl (decide (i < j))
def pLeI := pI T2 fun i j => .bl (decide (i ≤ j))
def pGtI := pI T2 fun i j => .bl (decide (j < i))
def pGeI := pI T2 fun i j => .bl (decide (j ≤ i))
theorem o_ltI : Op2 X T (compareOp .Lt) pLtI := op_pI0 op_lt fun Z i j => .bl _
theorem o_leI : Op2 X T (compareOp .LtE) pLeI := op_pI0 op_le fun Z i j => .bl _
theorem o_gtI : Op2 X T (compareOp .Gt) pGtI := op_pI0 op_gt fun Z i j => .bl _
theorem o_geI : Op2 X T (compareOp .GtE) pGeI := op_pI0 op_ge fun Z i j => .bl _

/-! ### texts -/
def SZ : Nat := 16777216
theorem SZ_eq : (sizeLine : Nat) = SZ := sizeLine_eq
def pS (C : List Nat → List Nat → Bool) (g : List Nat → List Nat → D) : D → D → Option RV := fun x y => match x, y with | .str i, .str j => if C i j then some (.d (g i j)) else none | _, _ => none
theorem pS_inv {C : List Nat → List Nat → Bool} {g : List Nat → List Nat → D} {x y : D} {w : RV} (h : pS C g x y = some w) : ∃ i j, x = .str i ∧ y = .str j ∧ C i j = true ∧ w = .d (g i j) := by
  unfold pS at h
  split at h
  · split at h
    · rename_i c
      exact ⟨_, _, rfl, rfl, c, (Option.some.inj h).symm⟩
    · cases h
  · cases h
def lenOk (i j : List Nat) : Bool := decide (i.length + j.length ≤ SZ)
def pAddS := pS lenOk fun i j => .str (i ++ j)
theorem str_app (i j : List Nat) : ((⟨i.toArray⟩ : Str) ++ ⟨j.toArray⟩) = ⟨(i ++ j).toArray⟩ := ext_tl (by rw [tl_append])
theorem str_len (i : List Nat) : (⟨i.toArray⟩ : Str).length = i.length := rfl
theorem o_addS : Op2 X T (binaryOp .Add) pAddS := op_flat op_add_str fun G B Z H σ env x y dx dy w Q E r1 r2 e c => by
  obtain ⟨i, j, rfl, rfl, hc, rfl⟩ := pS_inv e
  cases r1
  cases r2
  refine ⟨_, _, rfl, rfl, by rw [str_len, str_len, SZ_eq]; exact of_decide_eq_true hc, ?_⟩
  rw [str_app]
  exact c _ H Z (Same.refl _) E (.str _)
def S2t : List Nat → List Nat → Bool := fun _ _ => true
def pLtS := pS S2t fun i j => .bl (decide (i < j))
def pGtS := pS S2t fun i j => .bl (decide (j < i))
def pLeS := pS S2t fun i j => .bl (!decide (j < i))
def pGeS := pS S2t fun i j => .bl (!decide (i < j))
theorem o_ltS : Op2 X T (compareOp .Lt) pLtS := op_flat op_lt_str fun G B Z H σ env x y dx dy w Q E r1 r2 e c => by
  obtain ⟨i, j, rfl, rfl, hc, rfl⟩ := pS_inv e
  cases r1
  cases r2
  exact ⟨_, _, rfl, rfl, c _ H Z (Same.refl _) E (.bl _)⟩
theorem o_gtS : Op2 X T (compareOp .Gt) pGtS := op_flat op_gt_str fun G B Z H σ env x y dx dy w Q E r1 r2 e c => by
  obtain ⟨i, j, rfl, rfl, hc, rfl⟩ := pS_inv e
  cases r1
  cases r2
  exact ⟨_, _, rfl, rfl, c _ H Z (Same.refl _) E (.bl _)⟩
theorem o_leS : Op2 X T (compareOp .LtE) pLeS := op_flat op_le_str fun G B Z H σ env x y dx dy w Q E r1 r2 e c => by
  obtain ⟨i, j, rfl, rfl, hc, rfl⟩ := pS_inv e
  cases r1
  cases r2
  exact ⟨_, _, rfl, rfl, c _ H Z (Same.refl _) E (.bl _)⟩
theorem o_geS : Op2 X T (compareOp .GtE) pGeS := op_flat op_ge_str fun G B Z H σ env x y dx dy w Q E r1 r2 e c => by
  obtain ⟨i, j, rfl, rfl, hc, rfl⟩ := pS_inv e
  cases r1
  cases r2
  exact ⟨_, _, rfl, rfl, c _ H Z (Same.refl _) E (.bl _)⟩
/-- one sign in a text -/
def one1 (i _ : List Nat) : Bool := i.length == 1
def pInS := pS one1 fun i j => .bl (decide (i.headD 0 ∈ j))
def pNinS := pS one1 fun i j => .bl (!decide (i.headD 0 ∈ j))
theorem one1_inv {i j : List Nat} (h : one1 i j = true) : ∃ c, i = [c] := by
  unfold one1 at h
  match i, h with
  | [c], _ => exact ⟨c, rfl⟩
theorem o_inS : Op2 X T (compareOp .In) pInS := op_flat op_in_sign fun G B Z H σ env x y dx dy w Q E r1 r2 e c => by
  obtain ⟨i, j, rfl, rfl, hc, rfl⟩ := pS_inv e
  obtain ⟨ch, rfl⟩ := one1_inv hc
  cases r1
  cases r2
  exact ⟨ch, _, rfl, rfl, c _ H Z (Same.refl _) E (.bl _)⟩
theorem o_ninS : Op2 X T (compareOp .NotIn) pNinS := op_flat op_notIn_sign fun G B Z H σ env x y dx dy w Q E r1 r2 e c => by
  obtain ⟨i, j, rfl, rfl, hc, rfl⟩ := pS_inv e
  obtain ⟨ch, rfl⟩ := one1_inv hc
  cases r1
  cases r2
  exact ⟨ch, _, rfl, rfl, c _ H Z (Same.refl _) E (.bl _)⟩
/-- text * int -/
def pMulS : D → D → Option RV := fun x y => match x, y with
  | .str i, .int n => if decide (0 ≤ n) && decide (i.length * n.toNat ≤ SZ) && decide (n ≤ 16777216) then some (.d (.str (List.replicate n.toNat i).flatten)) else none
  | _, _ => none
theorem foldl_cps (a : Array Nat) : ∀ (k : Nat) (acc : Array Nat), ((List.replicate k a).foldl (· ++ ·) acc).toList = acc.toList ++ (List.replicate k a.toList).flatten
  | 0, acc => by simp
  | k + 1, acc => by
    rw [List.replicate_succ, List.foldl_cons, foldl_cps a k, List.replicate_succ, List.flatten_cons, Array.toList_append, List.append_assoc]
theorem o_mulS : Op2 X T (binaryOp .Mult) pMulS := fun pins s σ H x y v u Q G B Z σ' env dx dy w I rx ry E r1 r2 e c => by
  unfold pMulS at e
  split at e
  · rename_i i n
    split at e
    · rename_i hc
      cases e
      rw [Bool.and_eq_true, Bool.and_eq_true] at hc
      have h0 := of_decide_eq_true hc.1.1
      have h1 := of_decide_eq_true hc.1.2
      have h2 := of_decide_eq_true hc.2
      cases r1
      cases r2
      obtain ⟨t, rfl⟩ := rx
      obtain ⟨t', rfl⟩ := ry
      have hlen : (⟨i.toArray⟩ : Str).length = i.length := rfl
      have fin : ∀ (z : Str) (k : Tok) (s' : Nat), tl z = (List.replicate n.toNat i).flatten → EP X pins σ Q (.str z k) { s with toks := s' } := fun z k s' hz => by
        have ez : z = ⟨(List.replicate n.toNat i).flatten.toArray⟩ := ext_tl (by rw [hz])
        subst ez
        exact ⟨.str _, H, I.tok _, ⟨_, rfl⟩, c _ H Z (Same.refl _) E (.str _)⟩
      refine SB.mul ⟨?_, fun h3 _ => ?_, fun _ _ => ?_⟩ fun t2 k => ?_
      · have a : ¬ n < -(2 ^ 63 : Int) := by omega
        have b : ¬ n ≥ 2 ^ 63 := by omega
        rw [decide_eq_false a, decide_eq_false b]; rfl
      · rw [hlen]
        have hn : 1 ≤ n.toNat := by omega
        have hl : i.length ≤ SZ := Nat.le_trans (Nat.le_mul_of_pos_right _ hn) h1
        have hsz : SZ = 16777216 := rfl
        have : (549755813887 : Int) ≤ (2 ^ 63 - 1) / n := Int.le_ediv_of_mul_le (by omega) (by omega)
        omega
      · rw [hlen]
        unfold Builtin.Str.tooLong
        have : ¬ i.length * n.toNat > sizeLine := by rw [SZ_eq]; omega
        simp only [this, decide_false]
      · unfold Txt.mul
        by_cases h3 : n < 1
        · rw [if_pos h3]
          have : n.toNat = 0 := by omega
          refine fin _ _ _ ?_
          rw [this]
          rfl
        · rw [if_neg h3]
          refine fin _ _ _ ?_
          split
          · rename_i hq
            simp only [Bool.or_eq_true, beq_iff_eq] at hq
            rcases hq with hq | hq
            · subst hq
              simp
            · have : i = [] := List.eq_nil_of_length_eq_zero hq
              subst this
              simp
          · show Array.toList _ = _
            rw [foldl_cps]
            simp
    · cases e
  · cases e

/-! ### tuples, lists -/
def pAddT : D → D → Option RV := fun x y => match x, y with
  | .tup a, .tup b => if !a.isEmpty && decide (a.length + b.length ≤ SZ) then some (.d (.tup (a ++ b))) else none
  | _, _ => none
theorem o_addT (hT : X.K = T.K) : Op2 X T (binaryOp .Add) pAddT := op_flat op_catT fun G B Z H σ env x y dx dy w Q E r1 r2 e c => by
  unfold pAddT at e
  split at e
  · rename_i a b
    split at e
    · rename_i hc
      cases e
      rw [Bool.and_eq_true] at hc
      have h1 := of_decide_eq_true hc.2
      cases r1 with
      | tup ha ra =>
        cases r2 with
        | tup hb rb =>
          refine ⟨_, _, _, _, rfl, rfl, by rw [hT]; exact sqt_mono E.sub ha, by rw [hT]; exact sqt_mono E.sub hb, fun z => ?_, by rw [ra.length, rb.length, SZ_eq]; exact h1, fun z => ?_, fun _ p hp => ?_⟩
          · subst z
            cases ra
            simp at hc
          · subst z
            cases rb
            refine c _ H Z (Same.refl _) E ?_
            rw [List.append_nil]
            exact .tup ha ra
          · obtain ⟨s, E', r'⟩ := new_tup E hp (ra.append rb)
            exact c _ _ _ s E' r'
    · cases e
  · cases e
def pAddL : D → D → Option RV := fun x y => match x, y with
  | .lst a, .lst b => if decide (a.length + b.length ≤ SZ) then some (.o (.l (a ++ b))) else none
  | _, _ => none
theorem o_addL : Op2 X T (binaryOp .Add) pAddL := op_flat op_cat fun G B Z H σ env x y dx dy w Q E r1 r2 e c => by
  unfold pAddL at e
  split at e
  · rename_i a b
    split at e
    · rename_i hc
      cases e
      have h1 := of_decide_eq_true hc
      cases r1 with
      | lst ha ra =>
        cases r2 with
        | lst hb rb =>
          refine ⟨_, _, _, _, rfl, rfl, E.sub _ _ ha, E.sub _ _ hb, by rw [ra.length, rb.length, SZ_eq]; exact h1, fun p hp => ?_⟩
          obtain ⟨E', r'⟩ := new_list E hp (ra.append rb)
          exact c _ _ _ (Same.refl _) E' r'
    · cases e
  · cases e
def pMulL : D → D → Option RV := fun x y => match x, y with
  | .lst a, .int k => if decide (0 ≤ k) && (decide (k ≤ 16777216) && decide (a.length * k.toNat ≤ SZ)) then some (.o (.l (List.replicate k.toNat a).flatten)) else none
  | _, _ => none
theorem Reps.rep {Z : Hp} {vs : List V} {ds : List D} (r : Reps T Z vs ds) : ∀ k, Reps T Z (List.replicate k vs).flatten (List.replicate k ds).flatten
  | 0 => .nil
  | k + 1 => by
    rw [List.replicate_succ, List.replicate_succ, List.flatten_cons, List.flatten_cons]
    exact r.append (Reps.rep r k)
theorem o_mulL : Op2 X T (binaryOp .Mult) pMulL := op_flat op_rep fun G B Z H σ env x y dx dy w Q E r1 r2 e c => by
  unfold pMulL at e
  split at e
  · rename_i a k
    split at e
    · rename_i hc
      cases e
      rw [Bool.and_eq_true, Bool.and_eq_true] at hc
      have h0 := of_decide_eq_true hc.1
      have h1 := of_decide_eq_true hc.2.1
      have h2 := of_decide_eq_true hc.2.2
      cases r1 with
      | lst ha ra =>
        cases r2
        refine ⟨_, _, _, rfl, rfl, E.sub _ _ ha, by omega, by omega, by rw [ra.length, SZ_eq]; exact h2, fun p hp => ?_⟩
        obtain ⟨E', r'⟩ := new_list E hp (ra.rep k.toNat)
        exact c _ _ _ (Same.refl _) E' r'
    · cases e
  · cases e

/-! ### == and != of data -/
mutual
/-- equal as data (objects by their class and fields) -/
def eqD : D → D → Bool
  | .non, .non => true
  | .bl a, .bl b => a == b
  | .int a, .int b => a == b
  | .str a, .str b => a == b
  | .tup a, .tup b => eqDs a b
  | .lst a, .lst b => eqDs a b
  | .lst a, .ro b => eqDs a b
  | .ro a, .lst b => eqDs a b
  | .ro a, .ro b => eqDs a b
  | .obj c a, .obj k b => c == k && eqDs a b
  | _, _ => false
def eqDs : List D → List D → Bool
  | [], [] => true
  | x :: xs, y :: ys => eqD x y && eqDs xs ys
  | _, _ => false
end
mutual
/-- no truth value meets an int -/
def noMix : D → D → Bool
  | .bl _, .int _ => false
  | .int _, .bl _ => false
  | .tup a, .tup b => noMixs a b
  | .lst a, .lst b => noMixs a b
  | .lst a, .ro b => noMixs a b
  | .ro a, .lst b => noMixs a b
  | .ro a, .ro b => noMixs a b
  | _, _ => true
def noMixs : List D → List D → Bool
  | x :: xs, y :: ys => noMix x y && noMixs xs ys
  | _, _ => true
end
mutual
/-- none, bools, ints, texts, lists and tuples of these, at most k deep -/
def plain : Nat → D → Bool
  | _, .non => true
  | _, .bl _ => true
  | _, .int _ => true
  | _, .str l => l.all (· < 0x110000)
  | k + 1, .tup a => plains k a
  | k + 1, .lst a => plains k a
  | k + 1, .ro a => plains k a
  | _, _ => false
def plains : Nat → List D → Bool
  | _, [] => true
  | k, x :: xs => plain k x && plains k xs
end
mutual
def pd : D → PyData
  | .non => .none
  | .bl b => .bool b
  | .int i => .int i
  | .str l => .str ⟨l.toArray⟩
  | .tup a => .tuple (pds a)
  | .lst a => .list (pds a)
  | .ro a => .list (pds a)
  | _ => .none
def pds : List D → List PyData
  | [] => []
  | x :: xs => pd x :: pds xs
end
mutual
theorem pd_lay : ∀ (k : Nat) (d : D), plain k d = true → (pd d).canLay0 = true ∧ (pd d).depth ≤ k
  | k, .non, _ => ⟨rfl, Nat.zero_le _⟩
  | k, .bl _, _ => ⟨rfl, Nat.zero_le _⟩
  | k, .int _, _ => ⟨rfl, Nat.zero_le _⟩
  | k, .str l, h => by
    unfold plain at h
    refine ⟨?_, by show 0 ≤ k; exact Nat.zero_le _⟩
    show PyData.strOk ⟨l.toArray⟩ = true
    unfold PyData.strOk
    simpa using h
  | k + 1, .tup a, h => by
    unfold plain at h
    obtain ⟨h1, h2⟩ := pds_lay k a h
    exact ⟨h1, Nat.succ_le_succ h2⟩
  | k + 1, .lst a, h => by
    unfold plain at h
    obtain ⟨h1, h2⟩ := pds_lay k a h
    exact ⟨h1, Nat.succ_le_succ h2⟩
  | k + 1, .ro a, h => by
    unfold plain at h
    obtain ⟨h1, h2⟩ := pds_lay k a h
    exact ⟨h1, Nat.succ_le_succ h2⟩
  | 0, .tup a, h => by simp [plain] at h
  | 0, .lst a, h => by simp [plain] at h
  | 0, .ro a, h => by simp [plain] at h
  | k, .obj _ _, h => by simp [plain] at h
  | k, .fn _, h => by simp [plain] at h
  | k, .ty _, h => by simp [plain] at h
  | k, .cls _, h => by simp [plain] at h
  | k, .exv _ _ _ _, h => by simp [plain] at h
theorem pds_lay : ∀ (k : Nat) (a : List D), plains k a = true → PyData.canLayAll0 (pds a) = true ∧ PyData.depthAll (pds a) ≤ k
  | k, [], _ => ⟨rfl, Nat.zero_le _⟩
  | k, x :: xs, h => by
    unfold plains at h
    rw [Bool.and_eq_true] at h
    obtain ⟨h1, h2⟩ := pd_lay k x h.1
    obtain ⟨h3, h4⟩ := pds_lay k xs h.2
    refine ⟨?_, ?_⟩
    · show (PyData.canLay0 (pd x) && PyData.canLayAll0 (pds xs)) = true
      rw [h1, h3]; rfl
    · show max (PyData.depth (pd x)) (PyData.depthAll (pds xs)) ≤ k
      omega
end
mutual
theorem Rep.dp {Z H : Hp} (s : Same Z H) : ∀ {v : V} {d : D} (k : Nat), Rep T Z v d → plain k d = true → Dp T.K H v (pd d)
  | _, _, _, .non, _ => .non
  | _, _, _, .bl b, _ => .bl b
  | _, _, _, .int i, _ => .int i
  | _, _, _, .str l, _ => .str _
  | _, _, k + 1, .tup h r, p => by unfold plain at p; exact .tup (sqt_mono s h) (Reps.dp s k r p)
  | _, _, k + 1, .lst h r, p => by unfold plain at p; exact .lst (SqL.of (s _ _ h)) (Reps.dp s k r p)
  | _, _, k + 1, .ro h r, p => by unfold plain at p; exact .lst (s.seq h) (Reps.dp s k r p)
  | _, _, 0, .tup h r, p => by simp [plain] at p
  | _, _, 0, .lst h r, p => by simp [plain] at p
  | _, _, 0, .ro h r, p => by simp [plain] at p
  | _, _, _, .obj _ _ _, p => by simp [plain] at p
  | _, _, _, .fn _, p => by simp [plain] at p
  | _, _, _, .ty _, p => by simp [plain] at p
  | _, _, _, .cls _, p => by simp [plain] at p
  | _, _, _, .exv0, p => by simp [plain] at p
  | _, _, _, .exv _ _ _, p => by simp [plain] at p
theorem Reps.dp {Z H : Hp} (s : Same Z H) : ∀ {vs : List V} {ds : List D} (k : Nat), Reps T Z vs ds → plains k ds = true → DpAll T.K H vs (pds ds)
  | _, _, _, .nil, _ => .nil
  | _, _, k, .cons h r, p => by
    unfold plains at p
    rw [Bool.and_eq_true] at p
    exact .cons (Rep.dp s k h p.1) (Reps.dp s k r p.2)
end
theorem str_beq (a b : List Nat) : ((⟨a.toArray⟩ : Str) == ⟨b.toArray⟩) = (a == b) := by
  rw [Bool.eq_iff_iff, beq_iff_eq, beq_iff_eq]
  exact ⟨fun h => by have := congrArg tl h; exact this, fun h => by rw [h]⟩
mutual
theorem eqv_eq : ∀ (k j : Nat) (d e : D), plain k d = true → plain j e = true → noMix d e = true → PyData.eqv (pd d) (pd e) = eqD d e
  | k, j, d, e, h1, h2, h3 => by
    cases d <;> cases e <;> first
      | (simp [plain] at h1; done)
      | (simp [plain] at h2; done)
      | (simp [noMix] at h3; done)
      | (simp only [pd, PyData.eqv, eqD]; done)
      | (simp only [pd, PyData.eqv, eqD]; exact str_beq _ _)
      | (cases k with
         | zero => simp [plain] at h1
         | succ k =>
           cases j with
           | zero => simp [plain] at h2
           | succ j =>
             simp only [plain] at h1 h2
             simp only [noMix] at h3
             simp only [pd, PyData.eqv, eqD]
             exact eqvs_eq k j _ _ h1 h2 h3)
theorem eqvs_eq : ∀ (k j : Nat) (d e : List D), plains k d = true → plains j e = true → noMixs d e = true → PyData.eqvAll (pds d) (pds e) = eqDs d e
  | k, j, [], [], _, _, _ => rfl
  | k, j, [], _ :: _, _, _, _ => rfl
  | k, j, _ :: _, [], _, _, _ => rfl
  | k, j, x :: xs, y :: ys, h1, h2, h3 => by
    unfold plains at h1 h2
    unfold noMixs at h3
    rw [Bool.and_eq_true] at h1 h2 h3
    show (PyData.eqv (pd x) (pd y) && PyData.eqvAll (pds xs) (pds ys)) = (eqD x y && eqDs xs ys)
    rw [eqv_eq k j x y h1.1 h2.1 h3.1, eqvs_eq k j xs ys h1.2 h2.2 h3.2]
end
def scD : D → D → Bool
  | .non, .non => true | .non, .int _ => true | .int _, .non => true | .non, .bl _ => true | .bl _, .non => true | .non, .str _ => true | .str _, .non => true
  | .int _, .int _ => true | .bl _, .bl _ => true | .str _, .str _ => true
  | .int _, .str _ => true | .str _, .int _ => true | .bl _, .str _ => true | .str _, .bl _ => true
  | _, _ => false
def pEqF (neg : Bool) : D → D → Option RV := fun x y => if scD x y then some (.d (.bl (if neg then !eqD x y else eqD x y))) else none
theorem str_inj {a b : List Nat} : (V.str ⟨a.toArray⟩ = V.str ⟨b.toArray⟩) ↔ a = b := ⟨fun h => by
  have h' : (⟨a.toArray⟩ : Str) = ⟨b.toArray⟩ := by injection h
  exact congrArg tl h', fun h => by rw [h]⟩
theorem o_eqF : Op2 X T (compareOp .Eq) (pEqF false) := op_flat op_eq fun G B Z H σ env x y dx dy w Q E r1 r2 e c => by
  unfold pEqF at e
  split at e
  · rename_i hc
    cases e
    have fin : ∀ b, (b = eqD dx dy) → Q (.bl b) H := fun b hb => c _ H Z (Same.refl _) E (by rw [hb]; exact .bl _)
    cases r1 <;> cases r2 <;> first
      | (simp [scD] at hc; done)
      | (refine ⟨rfl, fin _ ?_⟩; simp [eqD]; done)
      | (refine ⟨rfl, fin _ ?_⟩; simp only [str_inj, eqD]; exact (Bool.beq_eq_decide_eq _ _).symm)
      | (refine ⟨rfl, fin _ ?_⟩; simp only [eqD, V.int.injEq, V.bl.injEq]; exact (Bool.beq_eq_decide_eq _ _).symm)
  · cases e
theorem o_neF : Op2 X T (compareOp .NotEq) (pEqF true) := op_flat op_ne fun G B Z H σ env x y dx dy w Q E r1 r2 e c => by
  unfold pEqF at e
  split at e
  · rename_i hc
    cases e
    have fin : ∀ b, (b = !eqD dx dy) → Q (.bl b) H := fun b hb => c _ H Z (Same.refl _) E (by rw [hb]; exact .bl _)
    cases r1 <;> cases r2 <;> first
      | (simp [scD] at hc; done)
      | (refine ⟨rfl, fin _ ?_⟩; simp [eqD]; done)
      | (refine ⟨rfl, fin _ ?_⟩; simp only [str_inj, eqD]; exact congrArg not (Bool.beq_eq_decide_eq _ _).symm)
      | (refine ⟨rfl, fin _ ?_⟩; simp only [eqD, V.int.injEq, V.bl.injEq]; exact congrArg not (Bool.beq_eq_decide_eq _ _).symm)
  · cases e
def pEqP (neg : Bool) : D → D → Option RV := fun x y => if plain 60 x && (plain 60 y && noMix x y) then some (.d (.bl (if neg then !eqD x y else eqD x y))) else none
theorem o_eqP (hT : X.K = T.K) (hu : X.A.units + 64 < cLine) : Op2 X T (compareOp .Eq) (pEqP false) := op_flat (op_eqD hu) fun G B Z H σ env x y dx dy w Q E r1 r2 e c => by
  unfold pEqP at e
  split at e
  · rename_i hc
    cases e
    rw [Bool.and_eq_true, Bool.and_eq_true] at hc
    obtain ⟨h1, h2, h3⟩ := hc
    obtain ⟨a1, a2⟩ := pd_lay 60 dx h1
    obtain ⟨b1, b2⟩ := pd_lay 60 dy h2
    refine ⟨pd dx, pd dy, by rw [hT]; exact r1.dp E.sub 60 h1, by rw [hT]; exact r2.dp E.sub 60 h2, ?_, ?_, ?_⟩
    · unfold SeqAt.shaped; rw [a1, decide_eq_true (by omega)]; rfl
    · unfold SeqAt.shaped; rw [b1, decide_eq_true (by omega)]; rfl
    · rw [eqv_eq 60 60 dx dy h1 h2 h3]
      exact c _ H Z (Same.refl _) E (.bl _)
  · cases e
theorem o_neP (hT : X.K = T.K) (hu : X.A.units + 64 < cLine) : Op2 X T (compareOp .NotEq) (pEqP true) := op_flat (op_neD hu) fun G B Z H σ env x y dx dy w Q E r1 r2 e c => by
  unfold pEqP at e
  split at e
  · rename_i hc
    cases e
    rw [Bool.and_eq_true, Bool.and_eq_true] at hc
    obtain ⟨h1, h2, h3⟩ := hc
    obtain ⟨a1, a2⟩ := pd_lay 60 dx h1
    obtain ⟨b1, b2⟩ := pd_lay 60 dy h2
    refine ⟨pd dx, pd dy, by rw [hT]; exact r1.dp E.sub 60 h1, by rw [hT]; exact r2.dp E.sub 60 h2, ?_, ?_, ?_⟩
    · unfold SeqAt.shaped; rw [a1, decide_eq_true (by omega)]; rfl
    · unfold SeqAt.shaped; rw [b1, decide_eq_true (by omega)]; rfl
    · rw [eqv_eq 60 60 dx dy h1 h2 h3]
      exact c _ H Z (Same.refl _) E (.bl _)
  · cases e
/-- is None -/
def pIsN : D → D → Option RV := fun x y => match y with | .non => some (.d (.bl (match x with | .non => true | _ => false))) | _ => none
def pNotN : D → D → Option RV := fun x y => match y with | .non => some (.d (.bl (match x with | .non => false | _ => true))) | _ => none
theorem o_isN : Op2 X T (compareOp .Is) pIsN := op_flat op_isN fun G B Z H σ env x y dx dy w Q E r1 r2 e c => by
  cases r2 <;> first | (simp [pIsN] at e; done) | skip
  unfold pIsN at e
  cases e
  refine ⟨rfl, c _ H Z (Same.refl _) E ?_⟩
  cases r1 <;> exact .bl _
theorem o_notN : Op2 X T (compareOp .IsNot) pNotN := op_flat op_notN fun G B Z H σ env x y dx dy w Q E r1 r2 e c => by
  cases r2 <;> first | (simp [pNotN] at e; done) | skip
  unfold pNotN at e
  cases e
  refine ⟨rfl, c _ H Z (Same.refl _) E ?_⟩
  cases r1 <;> exact .bl _
/-! the operators as they stand in a text -/
def pAdd := orP pAddI (orP pAddS (orP pAddT pAddL))
def pMul := orP pMulI (orP pMulS pMulL)
def pEq (neg : Bool) := orP (pEqF neg) (pEqP neg)
def pLt := orP pLtI pLtS
def pLe := orP pLeI pLeS
def pGt := orP pGtI pGtS
def pGe := orP pGeI pGeS
theorem o_add (hT : X.K = T.K) : Op2 X T (binaryOp .Add) pAdd := o_addI.or (o_addS.or ((o_addT hT).or o_addL))
theorem o_mul : Op2 X T (binaryOp .Mult) pMul := o_mulI.or (o_mulS.or o_mulL)
theorem o_eq (hT : X.K = T.K) (hu : X.A.units + 64 < cLine) : Op2 X T (compareOp .Eq) (pEq false) := o_eqF.or (o_eqP hT hu)
theorem o_ne (hT : X.K = T.K) (hu : X.A.units + 64 < cLine) : Op2 X T (compareOp .NotEq) (pEq true) := o_neF.or (o_neP hT hu)
theorem o_lt : Op2 X T (compareOp .Lt) pLt := o_ltI.or o_ltS
theorem o_le : Op2 X T (compareOp .LtE) pLe := o_leI.or o_leS
theorem o_gt : Op2 X T (compareOp .Gt) pGt := o_gtI.or o_gtS
theorem o_ge : Op2 X T (compareOp .GtE) pGe := o_geI.or o_geS
end
end L2.S

set_option Elab.async false
set_option linter.all false
set_option maxRecDepth 100000
set_option maxHeartbeats 4000000
namespace L2.S
open PySem PySem.Spec PyProof.Rows
section
variable {X : Cx} {T : Tb} {W : WX} {a b c : Expr} {f g : Env' → R} {pos : Pos} {st : Stmt} {sts rest : List Stmt} {t u : Env' → RS} {tt : Env' → RT}
/-! ### blocks -/
def sSeq (t u : Env' → RS) : Env' → RS := fun env => match t env with | .nx e => u e | r => r
def sNx : Env' → RS := fun e => .nx e
theorem sss_nil : SSs X T W [] sNx := PSs.weak pss_nil fun K σ H ⟨G, B, Z, env, E, q⟩ => q σ H Z (Same.refl _) E
theorem sss_cons (h1 : SS X T W st t) (h2 : SSs X T W rest u) : SSs X T W (st :: rest) (sSeq t u) := by
  refine PSs.weak (pss_cons h1 h2) fun K σ H ⟨G, B, Z, env, E, q⟩ => ⟨G, B, Z, env, E, ?_⟩
  unfold sSeq at q
  cases h : t env with
  | nx e =>
    rw [h] at q
    exact fun σ' H' Z' s E' => ⟨G, B, Z', e, E', PRS.mono s (r := u e) q⟩
  | bk e => rw [h] at q; exact q
  | ct e => rw [h] at q; exact q
  | rt r e => rw [h] at q; exact q
  | ex x e => rw [h] at q; exact q
  | no => rw [h] at q; exact q.elim
theorem sss_one (h1 : SS X T W st t) : SSs X T W [st] t := pss_one h1
theorem ss_pass : SS X T W (.Pass pos) sNx := PS.weak ps_pass fun K σ H ⟨G, B, Z, env, E, q⟩ => q σ H Z (Same.refl _) E
theorem ss_doc {x j pos'} : SS X T W (.Expr (.Constant (.str x) j pos') pos) sNx := PS.weak ps_doc fun K σ H ⟨G, B, Z, env, E, q⟩ => q σ H Z (Same.refl _) E
def sBk : Env' → RS := fun e => .bk e
def sCt : Env' → RS := fun e => .ct e
theorem ss_break : SS X T W (.Break pos) sBk := PS.weak ps_break fun K σ H ⟨G, B, Z, env, E, q⟩ => q σ H Z (Same.refl _) E
theorem ss_continue : SS X T W (.Continue pos) sCt := PS.weak ps_continue fun K σ H ⟨G, B, Z, env, E, q⟩ => q σ H Z (Same.refl _) E
def sDrop (f : Env' → R) : Env' → RS := fun env => (f env).bindR fun _ e => .nx e
theorem ss_expr (he : SE X T W a f) (hs : swapsWith a none pos.line X.env = pure false := by rfl) : SS X T W (.Expr a pos) (sDrop f) := by
  refine PS.weak (ps_expr he hs) fun K σ H ⟨G, B, Z, env, E, q⟩ => ?_
  exact useRV E q fun v H1 Z1 e r s E1 r1 q1 => q1 σ H1 Z1 (Same.refl _) E1
def sRet (f : Env' → R) : Env' → RS := fun env => (f env).bindR fun r e => .rt r e
theorem ss_ret (he : SE X T W a f) : SS X T W (.Return (some a) pos) (sRet f) := by
  refine PS.weak (ps_ret he) fun K σ H ⟨G, B, Z, env, E, q⟩ => ?_
  exact useRV E q fun v H1 Z1 e r s E1 r1 q1 => q1 v σ H1 Z1 (Same.refl _) E1 r1
def sRetN : Env' → RS := fun e => .rt (.d .non) e
theorem ss_retN : SS X T W (.Return none pos) sRetN := PS.weak ps_retN fun K σ H ⟨G, B, Z, env, E, q⟩ => q .non σ H Z (Same.refl _) E .non
/-- return xs, xs an own list: it is handed out -/
def sRetO (i : Nat) : Env' → RS := fun e => match e[i]? with | some (.own false o) => .rt (.o o) (e.set i .un) | _ => .no
theorem EOk.forget {G : Gd} {Z H : Hp} {B : List (Nat × Addr)} {σ : St} {env : Env'} {i : Nat} {o : OB} (E : EOk T G B Z H σ env) (h : env[i]? = some (.own false o)) :
    ∃ a, σ[i]? = some (some (.ref a)) ∧ EOk T G B Z H σ (env.set i .un) ∧ RRep T G Z H σ (env.set i .un) (.ref a) (.o o) := by
  obtain ⟨a, ho, e1, e2, r, e4, e5⟩ := E.own i false o h
  have hi : i < env.length := (List.getElem?_eq_some_iff.mp h).1
  have own' : ∀ j b, Own σ (env.set i .un) j b → j ≠ i ∧ Own σ env j b := fun j b ⟨⟨b1, o, q⟩, q2⟩ => by
    by_cases hj : i = j
    · subst hj
      rw [List.getElem?_set_self hi] at q
      cases q
    · rw [List.getElem?_set_ne hj] at q
      exact ⟨fun z => hj z.symm, ⟨b1, o, q⟩, q2⟩
  have ga : G.g a = none := by
    rcases e5 with ⟨z, _⟩ | ⟨_, z⟩
    · cases z
    · exact z
  refine ⟨a, e1, ⟨by rw [List.length_set]; exact E.len, E.sub, E.nof, E.keep, fun j d q => ?_, fun j b o q => ?_, fun j b q => ?_, fun j k b n o1 o2 => E.dis j k b n (own' j b o1).2 (own' k b o2).2⟩, a, ho, rfl, e2, r, e4, ga, fun j oj => ?_⟩
  · by_cases hj : i = j
    · subst hj
      rw [List.getElem?_set_self hi] at q
      cases q
    · rw [List.getElem?_set_ne hj] at q
      exact E.val j d q
  · by_cases hj : i = j
    · subst hj
      rw [List.getElem?_set_self hi] at q
      cases q
    · rw [List.getElem?_set_ne hj] at q
      exact E.own j b o q
  · obtain ⟨⟨o2, q1⟩, q2⟩ := E.bor j b q
    refine ⟨⟨o2, ?_⟩, q2⟩
    rw [List.getElem?_set_ne fun z => by rw [← z, h] at q1; cases q1]
    exact q1
  · obtain ⟨n, oj'⟩ := own' j a oj
    exact E.dis j i a n oj' ⟨⟨_, _, h⟩, e1⟩
theorem ss_retO (i : Nat) {x : Str} {p : Pos} (hN : X.N[i]? = some x := by rfl) (hv : Vis X.env.scope x := by first | exact Or.inl rfl | exact Or.inr (Or.inl rfl) | exact Or.inr (Or.inr rfl)) (hd : (x == ("__debug__" : Str)) = false := by decide)
    (hcd : (x == ("__classdict__" : Str)) = false := by decide) : SS X T W (.Return (some (.Name x p)) pos) (sRetO i) := by
  refine PS.weak (ps_ret (pe_var hN hv hd hcd)) fun K σ H ⟨G, B, Z, env, E, q⟩ => ?_
  unfold sRetO at q
  split at q
  · rename_i o h
    obtain ⟨a, e1, E', r⟩ := E.forget h
    exact ⟨_, e1, q _ σ H Z (Same.refl _) E' r⟩
  · exact q.elim
def sIf (c : Env' → RT) (t u : Env' → RS) : Env' → RS := fun env => (c env).bindS fun b e => if b then t e else u e
theorem ss_if {ba bb : List Stmt} (hc : ST X T W c tt) (ha : SSs X T W ba t) (hb : SSs X T W bb u) : SS X T W (.If c ba bb pos) (sIf tt t u) := by
  refine PS.weak (ps_if hc ha hb) fun K σ H ⟨G, B, Z, env, E, q⟩ => ?_
  refine useTS E q fun b H1 Z1 e s E1 q1 => ?_
  cases b with
  | true => exact ⟨G, B, Z1, e, E1, q1⟩
  | false => exact ⟨G, B, Z1, e, E1, q1⟩

/-! ### stores -/
/-- slot i may be stored into: it is not lent to us -/
def canSet (env : Env') (i : Nat) : Bool := match env[i]? with | some (.own true _) => false | some _ => true | none => false
def ofR : RV → SV
  | .d d => .val d
  | .o o => .own false o
theorem own_set {σ : St} {env : Env'} {i : Nat} {v : V} {w : SV} (hi : i < env.length) (hl : σ.length = env.length) {j : Nat} {b : Addr} (o : Own (σ.set i (some v)) (env.set i w) j b) : (j = i ∧ v = .ref b ∧ ∃ b1 o, w = .own b1 o) ∨ (j ≠ i ∧ Own σ env j b) := by
  obtain ⟨⟨b1, o, q⟩, q2⟩ := o
  by_cases hj : i = j
  · subst hj
    rw [List.getElem?_set_self hi] at q
    rw [List.getElem?_set_self (by rw [hl]; exact hi)] at q2
    cases q
    refine .inl ⟨rfl, ?_, _, _, rfl⟩
    exact Option.some.inj (Option.some.inj q2)
  · rw [List.getElem?_set_ne hj] at q q2
    exact .inr ⟨fun z => hj z.symm, ⟨b1, o, q⟩, q2⟩
theorem EOk.store {G : Gd} {Z H : Hp} {B : List (Nat × Addr)} {σ : St} {env : Env'} {i : Nat} {v : V} {r : RV} (E : EOk T G B Z H σ env) (h : canSet env i = true) (rr : RRep T G Z H σ env v r) : EOk T G B Z H (σ.set i (some v)) (env.set i (ofR r)) := by
  unfold canSet at h
  cases hw : env[i]? with
  | none => rw [hw] at h; cases h
  | some w0 =>
  have hi : i < env.length := (List.getElem?_eq_some_iff.mp hw).1
  have hiσ : i < σ.length := by rw [E.len]; exact hi
  refine ⟨by rw [List.length_set, List.length_set]; exact E.len, E.sub, E.nof, E.keep, fun j d q => ?_, fun j b o q => ?_, fun j b q => ?_, fun j k b n o1 o2 => ?_⟩
  · by_cases hj : i = j
    · subst hj
      rw [List.getElem?_set_self hi] at q
      cases r with
      | d d' => cases q; exact ⟨v, List.getElem?_set_self hiσ, rr⟩
      | o o => cases q
    · rw [List.getElem?_set_ne hj] at q
      obtain ⟨v', q1, q2⟩ := E.val j d q
      exact ⟨v', by rw [List.getElem?_set_ne hj]; exact q1, q2⟩
  · by_cases hj : i = j
    · subst hj
      rw [List.getElem?_set_self hi] at q
      cases r with
      | d d' => cases q
      | o o' =>
        cases q
        obtain ⟨a, ho, rfl, e1, e2, e3, e4, e5⟩ := rr
        exact ⟨a, ho, List.getElem?_set_self hiσ, e1, e2, e3, .inr ⟨rfl, e4⟩⟩
    · rw [List.getElem?_set_ne hj] at q
      obtain ⟨a, ho, q1, q2⟩ := E.own j b o q
      exact ⟨a, ho, by rw [List.getElem?_set_ne hj]; exact q1, q2⟩
  · obtain ⟨⟨o, q1⟩, q2⟩ := E.bor j b q
    have hj : i ≠ j := fun z => by
      rw [← z, hw] at q1
      cases q1
      rw [hw] at h
      cases h
    exact ⟨⟨o, by rw [List.getElem?_set_ne hj]; exact q1⟩, by rw [List.getElem?_set_ne hj]; exact q2⟩
  · have key : ∀ {b : Addr}, v = .ref b → (∃ b1 o, ofR r = .own b1 o) → ∀ j, ¬ Own σ env j b := fun {b} ev ⟨b1, o, eo⟩ j => by
      cases r with
      | d d => cases eo
      | o o' =>
        obtain ⟨a, ho, ev2, e1, e2, e3, e4, e5⟩ := rr
        rw [ev] at ev2
        cases ev2
        exact e5 j
    rcases own_set hi E.len o1 with ⟨ej, ev, eo⟩ | ⟨n1, p1⟩
    · rcases own_set hi E.len o2 with ⟨ek, _, _⟩ | ⟨n2, p2⟩
      · exact n (ej.trans ek.symm)
      · exact key ev eo k p2
    · rcases own_set hi E.len o2 with ⟨ek, ev, eo⟩ | ⟨n2, p2⟩
      · exact key ev eo j p1
      · exact E.dis j k b n p1 p2
/-- x = e: a new list is owned -/
def sSetO (i : Nat) (f : Env' → R) : Env' → RS := fun env => (f env).bindR fun r e => if canSet e i then .nx (e.set i (ofR r)) else .no
/-- x = e: data -/
def sSet (i : Nat) (f : Env' → R) : Env' → RS := fun env => (f env).bindS fun d e => if canSet e i then .nx (e.set i (.val d)) else .no
/-- what a plain assignment's reading asks -/
theorem set_reads {i : Nat} {te : TE} (hte : te = tX T W f) : ∀ K σ H, tXS T W (sSet i f) K σ H → tAsg te (gName i) K σ H := fun K σ H ⟨G, B, Z, env, E, q⟩ => by
  subst hte
  refine useS E q fun v H1 Z1 e d s E1 r q1 => ?_
  by_cases h : canSet e i = true
  · rw [if_pos h] at q1
    exact q1 _ H1 Z1 (Same.refl _) (E1.store (r := .d d) h r)
  · rw [if_neg h] at q1; exact q1.elim
theorem setO_reads {i : Nat} {te : TE} (hte : te = tX T W f) : ∀ K σ H, tXS T W (sSetO i f) K σ H → tAsg te (gName i) K σ H := fun K σ H ⟨G, B, Z, env, E, q⟩ => by
  subst hte
  refine useRV E q fun v H1 Z1 e r s E1 rr q1 => ?_
  by_cases h : canSet e i = true
  · rw [if_pos h] at q1
    exact q1 _ H1 Z1 (Same.refl _) (E1.store h rr)
  · rw [if_neg h] at q1; exact q1.elim
theorem ss_set {i : Nat} {x : Str} {pos' : Pos} (hN : X.N.Nodup) (he : SE X T W a f) (hi : X.N[i]? = some x := by rfl) (hx : Loc X.env.scope x := by first | exact Or.inl rfl | exact Or.inr rfl) (hs : swapsWith a (some (.Name x pos')) pos.line X.env = pure false := by rfl) (hf : X.fn x = true ∨ X.env.scope.names.lookup x = some .local := by first | exact .inl rfl | exact .inr rfl | assumption) :
    SS X T W (.Assign [.Name x pos'] a pos) (sSet i f) := PS.weak (ps_set hN hi hx he hs hf) (set_reads rfl)
theorem ss_setO {i : Nat} {x : Str} {pos' : Pos} (hN : X.N.Nodup) (he : SE X T W a f) (hi : X.N[i]? = some x := by rfl) (hx : Loc X.env.scope x := by first | exact Or.inl rfl | exact Or.inr rfl) (hs : swapsWith a (some (.Name x pos')) pos.line X.env = pure false := by rfl) (hf : X.fn x = true ∨ X.env.scope.names.lookup x = some .local := by first | exact .inl rfl | exact .inr rfl | assumption) :
    SS X T W (.Assign [.Name x pos'] a pos) (sSetO i f) := PS.weak (ps_set hN hi hx he hs hf) (setO_reads rfl)

/-! ### targets -/
/-- a target of a for or an assignment: it stores data -/
def SG (X : Cx) (T : Tb) (tg : Expr) (js : List Nat) (h : D → Env' → Option Env') : Prop :=
  PG X tg (fun v σ H Q => ∃ G B Z env d e, EOk T G B Z H σ env ∧ Rep T Z v d ∧ h d env = some e ∧ ∀ σ', (∀ j, j ∉ js → σ'[j]? = σ[j]?) → σ'.length = σ.length → EOk T G B Z H σ' e → Q σ' H)
def gN (i : Nat) : D → Env' → Option Env' := fun d e => if canSet e i then some (e.set i (.val d)) else none
theorem PG.weak {tg : Expr} {t t' : TG} (h : PG X tg t) (w : ∀ v σ H Q, t' v σ H Q → t v σ H Q) : PG X tg t' := ⟨fun pins s σ H v u Q I r q => h.run pins s σ H v u Q I r (w _ _ _ _ q)⟩
theorem sg_n {i : Nat} {x : Str} (hN : X.N.Nodup) (hi : X.N[i]? = some x := by rfl) (hx : Loc X.env.scope x := by first | exact Or.inl rfl | exact Or.inr rfl) (hf : X.fn x = true ∨ X.env.scope.names.lookup x = some .local := by first | exact .inl rfl | exact .inr rfl | assumption) : SG X T (.Name x pos) [i] (gN i) := by
  refine PG.weak (pg_name hN hi hx hf) fun v σ H Q ⟨G, B, Z, env, d, e, E, r, h, q⟩ => ?_
  unfold gN at h
  split at h
  · rename_i hc
    cases h
    refine q _ (fun j hj => ?_) (by rw [List.length_set]) (E.store (r := .d d) hc r)
    rw [List.getElem?_set_ne fun z => hj (by rw [z]; simp)]
  · cases h
def SGs (X : Cx) (T : Tb) (tgs : List Expr) (js : List Nat) (h : List D → Env' → Option Env') : Prop :=
  PGs X tgs (fun vs σ H Q => ∃ G B Z env ds e, EOk T G B Z H σ env ∧ Reps T Z vs ds ∧ h ds env = some e ∧ ∀ σ', (∀ j, j ∉ js → σ'[j]? = σ[j]?) → σ'.length = σ.length → EOk T G B Z H σ' e → Q σ' H)
theorem PGs.weak {tg : List Expr} {t t' : TGs} (h : PGs X tg t) (w : ∀ v σ H Q, t' v σ H Q → t v σ H Q) : PGs X tg t' := ⟨fun pins s σ H v u Q I r q => h.run pins s σ H v u Q I r (w _ _ _ _ q)⟩
def g0 : List D → Env' → Option Env' := fun ds e => match ds with | [] => some e | _ => none
def gC (h : D → Env' → Option Env') (k : List D → Env' → Option Env') : List D → Env' → Option Env' := fun ds e => match ds with | d :: r => (h d e).bind (k r) | [] => none
theorem sgs_0 : SGs X T [] [] g0 := by
  refine PGs.weak pgs_nil fun vs σ H Q ⟨G, B, Z, env, ds, e, E, r, h, q⟩ => ?_
  cases r with
  | nil =>
    cases h
    exact ⟨rfl, q σ (fun _ _ => rfl) rfl E⟩
  | cons _ _ => cases h
theorem sgs_c {e : Expr} {es : List Expr} {js ks : List Nat} {h : D → Env' → Option Env'} {k : List D → Env' → Option Env'} (h1 : SG X T e js h) (h2 : SGs X T es ks k)
    (hs : (assignEach (e :: es) X.env).map (·.2) = assign e X.env :: (assignEach es X.env).map (·.2) := by rfl) : SGs X T (e :: es) (js ++ ks) (gC h k) := by
  refine PGs.weak (pgs_cons h1 h2 hs) fun vs σ H Q ⟨G, B, Z, env, ds, e, E, r, hh, q⟩ => ?_
  cases r with
  | nil => cases hh
  | @cons v d vs ds r1 rs =>
    have hh' : (h d env).bind (k ds) = some e := hh
    cases he : h d env with
    | none => rw [he] at hh'; cases hh'
    | some e1 =>
      rw [he] at hh'
      refine ⟨_, _, rfl, G, B, Z, env, d, e1, E, r1, he, fun σ1 n1 l1 E1 => ?_⟩
      refine ⟨G, B, Z, e1, ds, e, E1, rs, hh', fun σ2 n2 l2 E2 => q σ2 (fun j hj => ?_) (l2.trans l1) E2⟩
      rw [List.mem_append, not_or] at hj
      rw [n2 j hj.2, n1 j hj.1]
/-- (a, b, ..) = a tuple -/
def gT (n : Nat) (k : List D → Env' → Option Env') : D → Env' → Option Env' := fun d e => match d with | .tup ds => if ds.length = n then k ds e else none | _ => none
theorem sg_t {es : List Expr} {k0 : Nat} {js : List Nat} {k : List D → Env' → Option Env'} {n : Nat} (hT : X.K = T.K) (hc : X.calm = true) (h : SGs X T es js k)
    (hn : (assignEach es X.env).length = n := by rfl) (hst : (assignEach es X.env).findIdx? (·.1) = none := by rfl) : SG X T (.Tuple es k0 pos) js (gT n k) := by
  refine PG.weak (pg_tup hc h hn hst) fun v σ H Q ⟨G, B, Z, env, d, e, E, r, hh, q⟩ => ?_
  cases r with
  | @tup a vs ds hq rs =>
    unfold gT at hh
    dsimp only at hh
    split at hh
    · rename_i hl
      exact ⟨a, vs, rfl, by rw [hT]; exact sqt_mono E.sub hq, by rw [rs.length]; exact hl, G, B, Z, env, ds, e, E, rs, hh, q⟩
    · cases hh
  | _ => cases hh
/-- target = e -/
def sAsg (f : Env' → R) (h : D → Env' → Option Env') : Env' → RS := fun env => (f env).bindS fun d e => match h d e with | some e' => .nx e' | none => .no
theorem ss_asg {tg : Expr} {js : List Nat} {h : D → Env' → Option Env'} (he : SE X T W a f) (hg : SG X T tg js h) (hs : swapsWithSole [tg] a pos.line X.env = pure false := by rfl) (hw : swappedStores [tg] a X.env = pure none := by rfl)
    (h1 : (assignEach [tg] X.env).map (·.2) = [assign tg X.env] := by rfl) : SS X T W (.Assign [tg] a pos) (sAsg f h) := by
  refine PS.weak (ps_asg he hg hs hw h1) fun K σ H ⟨G, B, Z, env, E, q⟩ => ?_
  refine useS E q fun v H1 Z1 e d s E1 r q1 => ?_
  cases hh : h d e with
  | none => rw [hh] at q1; exact q1.elim
  | some e' =>
    rw [hh] at q1
    exact ⟨G, B, Z1, e, d, e', E1, r, hh, fun σ' _ _ E' => q1 σ' H1 Z1 (Same.refl _) E'⟩

/-! ### loops -/
/-- what a for walks: the items -/
inductive RI where
  | ok (ds : List D) (e : Env') | ex (x : Ex) (e : Env') | no
def PRI (T : Tb) (W : WX) (G : Gd) (B : List (Nat × Addr)) (Z : Hp) (σ : St) (Q : List D → Hp → Hp → Env' → Prop) : RI → Prop
  | .ok ds e => ∀ H' Z', Same Z Z' → EOk T G B Z' H' σ e → Q ds H' Z' e
  | .ex x e => ∀ cls d H' Z', Same Z Z' → EOk T G B Z' H' σ e → XRep T Z' H' cls d x → W cls d σ H'
  | .no => False
/-- an iterator that yields the items ds, one by one, and only adds to the heap -/
structure Walk (T : Tb) (Z : Hp) (J : It) (ds : List D) : Prop where
  go : ∀ (i : Nat) (d : D) (Z' H : Hp), ds[i]? = some d → Same Z Z' → Same Z' H → J.go i H ∧ ∀ x H', J.yld i H x H' → ∃ Z2, Same Z' Z2 ∧ Rep T Z2 x d ∧ ((H' = H ∧ Z2 = Z') ∨ ∃ p o, H p = none ∧ H' = upd H p o ∧ Z2 = upd Z' p o)
  stop : ∀ (Z' H : Hp), Same Z Z' → Same Z' H → J.stop ds.length H
def tXI (T : Tb) (W : WX) (f : Env' → RI) : TI := fun σ H R => ∃ G B Z env, EOk T G B Z H σ env ∧ PRI T W G B Z σ (fun ds H' Z' e => ∀ J, Walk T Z' J ds → R J H') (f env)
def SI (X : Cx) (T : Tb) (W : WX) (tg it : Expr) (f : Env' → RI) : Prop := PI X tg it (tXI T W f)
theorem PI.weak {tg it : Expr} {t t' : TI} (h : PI X tg it t) (w : ∀ σ H R, t' σ H R → t σ H R) : PI X tg it t' := ⟨fun pins s σ H R I q => h.run pins s σ H R I (w _ _ _ q)⟩
theorem EOk.yield {G : Gd} {Z H Z2 H2 : Hp} {B : List (Nat × Addr)} {σ : St} {env : Env'} (E : EOk T G B Z H σ env) (h : (H2 = H ∧ Z2 = Z) ∨ ∃ p o, H p = none ∧ H2 = upd H p o ∧ Z2 = upd Z p o) : EOk T G B Z2 H2 σ env := by
  rcases h with ⟨rfl, rfl⟩ | ⟨p, o, hp, rfl, rfl⟩
  · exact E
  · exact (E.new hp).fix upd_same (E.nown hp) (E.znone hp) (E.gnone hp)
/-- the turns -/
def forL (h : D → Env' → Option Env') (t : Env' → RS) : List D → Env' → RS
  | [], e => .nx e
  | d :: ds, e => match h d e with
    | none => .no
    | some e1 => match t e1 with
      | .nx e2 => forL h t ds e2
      | .ct e2 => forL h t ds e2
      | .bk e2 => .nx e2
      | .rt r e2 => .rt r e2
      | .ex x e2 => .ex x e2
      | .no => .no
def sFor (f : Env' → RI) (h : D → Env' → Option Env') (t : Env' → RS) : Env' → RS := fun env => match f env with
  | .ok ds e => forL h t ds e
  | .ex x e => .ex x e
  | .no => .no
theorem ss_for {tg it : Expr} {body : List Stmt} {fi : Env' → RI} {js : List Nat} {h : D → Env' → Option Env'} (hp : PassesOwn (model X.prog X.w) X.A X.env X.xe) (hc : X.calm = true) (hi : SI X T W tg it fi) (hg : SG X T tg js h) (hb : SSs X T W body t)
    (hs : ∀ x, foldedSetIterable it X.env x = pure x := by intro _; rfl) : SS X T W (.For tg it body [] pos) (sFor fi h t) := by
  refine PS.weak (ps_for hp hc hi hg hb hs) fun K σ H ⟨G, B, Z, env, E, q⟩ => ⟨G, B, Z, env, E, ?_⟩
  unfold sFor at q
  cases hf : fi env with
  | no => rw [hf] at q; exact q.elim
  | ex x e => rw [hf] at q; exact fun c d H' Z' s E r => q c d _ H' Z' s E r
  | ok ds e =>
    rw [hf] at q
    intro H1 Z1 s1 E1 J w
    refine ⟨fun i m σ H => m = ds.length - i ∧ i ≤ ds.length ∧ ∃ Z2 e2, Same Z1 Z2 ∧ EOk T G B Z2 H σ e2 ∧ PRS T W G B Z2 K (forL h t (ds.drop i) e2), ⟨_, rfl, Nat.zero_le _, Z1, e, Same.refl _, E1, PRS.mono s1 q⟩, ?_⟩
    rintro i m σ2 H2 ⟨rfl, hle, Z2, e2, s2, E2, q2⟩
    by_cases hlt : i < ds.length
    · have hd : ds[i]? = some ds[i] := List.getElem?_eq_getElem hlt
      obtain ⟨go, yld⟩ := w.go i ds[i] Z2 H2 hd s2 E2.sub
      have hdrop : ds.drop i = ds[i] :: ds.drop (i + 1) := List.drop_eq_getElem_cons hlt
      rw [hdrop] at q2
      unfold forL at q2
      refine .inr ⟨go, fun σ' H' => ∃ Z3 e3, Same Z1 Z3 ∧ EOk T G B Z3 H' σ' e3 ∧ PRS T W G B Z3 K (forL h t (ds.drop (i + 1)) e3), fun σ' H' ⟨Z3, e3, s3, E3, q3⟩ => ⟨ds.length - (i + 1), by omega, rfl, hlt, Z3, e3, s3, E3, q3⟩, fun x H' y => ?_⟩
      obtain ⟨Z3, s3, r3, hy⟩ := yld x H' y
      have E3 := E2.yield hy
      cases hh : h ds[i] e2 with
      | none => rw [hh] at q2; exact q2.elim
      | some e3 =>
        rw [hh] at q2
        refine ⟨G, B, Z3, e2, ds[i], e3, E3, r3, hh, fun σ3 _ _ E4 => ⟨G, B, Z3, e3, E4, ?_⟩⟩
        dsimp only at q2
        cases ht : t e3 with
        | nx e4 => rw [ht] at q2; exact fun σ' H' Z4 s4 E5 => ⟨Z4, e4, (s2.trans s3).trans s4, E5, PRS.mono (s3.trans s4) (r := forL h t (ds.drop (i + 1)) e4) q2⟩
        | ct e4 => rw [ht] at q2; exact fun σ' H' Z4 s4 E5 => ⟨Z4, e4, (s2.trans s3).trans s4, E5, PRS.mono (s3.trans s4) (r := forL h t (ds.drop (i + 1)) e4) q2⟩
        | bk e4 => rw [ht] at q2; exact fun σ' H' Z4 s4 E5 => q2 σ' H' Z4 (s3.trans s4) E5
        | rt r e4 => rw [ht] at q2; exact fun v σ' H' Z4 s4 E5 r5 => q2 v σ' H' Z4 (s3.trans s4) E5 r5
        | ex x e4 => rw [ht] at q2; exact fun c d σ' H' Z4 s4 E5 r5 => q2 c d σ' H' Z4 (s3.trans s4) E5 r5
        | no => rw [ht] at q2; exact q2.elim
    · have e0 : i = ds.length := by omega
      subst e0
      rw [List.drop_length] at q2
      exact .inl ⟨w.stop Z2 H2 s2 E2.sub, q2 σ2 H2 Z2 (Same.refl _) E2⟩
/-- the items of a list, a tuple, the signs of a text -/
def itemsD : D → Option (List D)
  | .tup ds => some ds
  | .lst ds => some ds
  | .ro ds => some ds
  | .str l => some (l.map fun c => .str [c])
  | _ => none
def iD (f : Env' → R) : Env' → RI := fun env => match f env with
  | .ok r e => (match r with
    | .d d => (match itemsD d with | some ds => .ok ds e | none => .no)
    | .o (.l xs) => .ok xs e
    | .o (.s _ _) => .no)
  | .ex x e => .ex x e
  | .no => .no
theorem walk_list {Z : Hp} {p : Addr} {vs : List V} {ds : List D} (hT : X.K = T.K) (h : SqL T.K Z p vs) (r : Reps T Z vs ds) : Walk T Z (Itl X.K p) ds where
  go := fun i d Z' H e s s' => by
    obtain ⟨v, e1, r1⟩ := r.get e
    have q : SqL X.K H p vs := by rw [hT]; exact (s.trans s').seq h
    refine ⟨⟨vs, v, q, e1⟩, fun x H' y => ?_⟩
    obtain ⟨rfl, y⟩ := y
    have := y vs q
    rw [e1] at this
    cases this
    exact ⟨Z', Same.refl _, r1.mono s, .inl ⟨rfl, rfl⟩⟩
  stop := fun Z' H s s' => ⟨vs, by rw [hT]; exact (s.trans s').seq h, by rw [r.length]; exact Nat.le_refl _⟩
end
end L2.S

set_option Elab.async false
set_option linter.all false
set_option maxRecDepth 100000
set_option maxHeartbeats 4000000
namespace L2.S
open PySem PySem.Spec PyProof.Rows
section
variable {X : Cx} {T : Tb} {W : WX} {a b c tg : Expr} {f g : Env' → R} {pos : Pos} {st : Stmt} {sts rest : List Stmt} {t u : Env' → RS} {tt : Env' → RT} {fa : Env' → RA}
/-! ### what a for walks -/
section
variable {pins : List (Addr × Obj)} {σ : St} {H : Hp} {s : Shared} {R : It → Hp → Prop} {E : Value → Shared → Prop}
theorem it_list {p : Addr} {xs : List V} (I : Inv X pins σ H s) (h : SqL X.K H p xs) (q : R (Itl X.K p) H) : wpAny (model X.prog X.w) X.A (pyIter (.ref p)) (PIE X pins σ tg R) E s := by
  obtain ⟨its, rv, pl, hz⟩ := I.list h
  exact wpAny_pyIter_list pl.isList (pi_one (tk := s.toks) I _ (turn_list p _) ⟨_, Heap.get?_push_size _ rfl, rfl, rfl⟩ q)
theorem it_tup {p : Addr} {xs : List V} (I : Inv X pins σ H s) (h : SqT X.K H p xs) (q : R (Itt X.K p) H) : wpAny (model X.prog X.w) X.A (pyIter (.ref p)) (PIE X pins σ tg R) E s := by
  obtain ⟨its, rv, pl, hz⟩ := I.tuple h
  exact wpAny_pyIter_tuple (show s.heap.IsTuple p its.toArray from pl) (pi_one (tk := s.toks) I _ (turn_tuple p _) ⟨_, Heap.get?_push_size _ rfl, rfl, rfl⟩ q)
theorem it_str {x : Str} {t : Tok} (I : Inv X pins σ H s) (q : R (Its x) H) : wpAny (model X.prog X.w) X.A (pyIter (.str x t)) (PIE X pins σ tg R) E s := by
  cases ha : x.cps.all (· < 128)
  · exact wpAny_pyIter_wide ha (pi_one (tk := s.toks) I _ (turn_str _ x t "str_iterator" (.inr rfl)) ⟨_, Heap.get?_push_size _ rfl, rfl, rfl⟩ q)
  · exact wpAny_pyIter_ascii ha (pi_one (tk := s.toks) I _ (turn_str _ x t "str_ascii_iterator" (.inl rfl)) ⟨_, Heap.get?_push_size _ rfl, rfl, rfl⟩ q)
end
theorem walk_tup {Z : Hp} {p : Addr} {vs : List V} {ds : List D} (hT : X.K = T.K) (h : SqT T.K Z p vs) (r : Reps T Z vs ds) : Walk T Z (Itt X.K p) ds where
  go := fun i d Z' H e s s' => by
    obtain ⟨v, e1, r1⟩ := r.get e
    have q : SqT X.K H p vs := by rw [hT]; exact sqt_mono (s.trans s') h
    refine ⟨⟨vs, v, q, e1⟩, fun x H' y => ?_⟩
    obtain ⟨rfl, y⟩ := y
    have := y vs q
    rw [e1] at this
    cases this
    exact ⟨Z', Same.refl _, r1.mono s, .inl ⟨rfl, rfl⟩⟩
  stop := fun Z' H s s' => ⟨vs, by rw [hT]; exact sqt_mono (s.trans s') h, by rw [r.length]; exact Nat.le_refl _⟩
theorem walk_str {Z : Hp} {l : List Nat} : Walk T Z (Its ⟨l.toArray⟩) (l.map fun c => .str [c]) where
  go := fun i d Z' H e s s' => by
    rw [List.getElem?_map] at e
    cases q : l[i]? with
    | none => rw [q] at e; cases e
    | some ch =>
      rw [q] at e
      cases e
      have hi : i < l.length := (List.getElem?_eq_some_iff.mp q).1
      refine ⟨by show i < (⟨l.toArray⟩ : Str).cps.size; simpa using hi, fun x H' y => ?_⟩
      obtain ⟨rfl, k, hk, rfl⟩ := y
      have hk' : l[i]? = some k := by simpa using hk
      rw [q] at hk'
      cases hk'
      exact ⟨Z', Same.refl _, .str [ch], .inl ⟨rfl, rfl⟩⟩
  stop := fun Z' H s s' => by show (⟨l.toArray⟩ : Str).cps.size ≤ _; simp
/-- over data -/
theorem si_d (hT : X.K = T.K) (ha : SE X T W a f) : SI X T W tg a (iD f) := by
  refine ⟨fun pins s σ H Rr I h => ?_⟩
  obtain ⟨G, B, Z, env, E, q⟩ := h
  have key : tX T W f σ H fun v H1 => ∃ d Z1 ds, itemsD d = some ds ∧ Same Z1 H1 ∧ Rep T Z1 v d ∧ ∀ J, Walk T Z1 J ds → Rr J H1 := by
    refine use (Same.refl _) E (fun r e hf v H' Z' s1 E' r' => ?_) (fun x e hf => ?_) (fun hf => ?_)
    · unfold iD at q
      rw [hf] at q
      cases r with
      | d d =>
        dsimp only at q
        cases hi : itemsD d with
        | none => rw [hi] at q; exact q.elim
        | some ds =>
          rw [hi] at q
          exact ⟨d, Z', ds, hi, E'.sub, r', q H' Z' s1 E'⟩
      | o o =>
        cases o with
        | s c xs => exact q.elim
        | l xs =>
          obtain ⟨Z2, s2, E2, r2⟩ := frozen E' r'
          exact ⟨.lst xs, Z2, xs, rfl, E2.sub, r2, q H' Z2 (s1.trans s2) E2⟩
    · unfold iD at q
      rw [hf] at q
      exact q
    · unfold iD at q
      rw [hf] at q
      exact q.elim
  refine thn (ha.run pins s σ H _ I key) fun v s1 ⟨x, H1, I1, r1, d, Z1, ds, hd, hs, rr, k⟩ => ?_
  cases rr with
  | tup h r =>
    cases hd
    cases r1
    exact it_tup I1 (by rw [hT]; exact sqt_mono hs h) (k _ (walk_tup hT h r))
  | lst h r =>
    cases hd
    cases r1
    exact it_list I1 (SqL.of (hs _ _ h)) (k _ (walk_list hT (SqL.of h) r))
  | ro h r =>
    cases hd
    cases r1
    exact it_list I1 (by rw [hT]; exact hs.seq h) (k _ (walk_list hT h r))
  | str l =>
    cases hd
    obtain ⟨t, rfl⟩ := r1
    exact it_str I1 (k _ walk_str)
  | _ => cases hd
def rngD (lo hi : Int) : List D := (List.range (hi - lo).toNat).map fun (i : Nat) => .int (lo + i)
theorem walk_rng {Z : Hp} {lo : Int} {n : Nat} : Walk T Z (Itr lo n) ((List.range n).map fun (i : Nat) => .int (lo + i)) where
  go := fun i d Z' H e s s' => by
    rw [List.getElem?_map] at e
    cases q : (List.range n)[i]? with
    | none => rw [q] at e; cases e
    | some j =>
      rw [q] at e
      cases e
      obtain ⟨hi, ej⟩ := List.getElem?_eq_some_iff.mp q
      rw [List.length_range] at hi
      rw [List.getElem_range] at ej
      subst ej
      refine ⟨hi, fun x H' y => ?_⟩
      obtain ⟨rfl, rfl⟩ := y
      exact ⟨Z', Same.refl _, .int _, .inl ⟨rfl, rfl⟩⟩
  stop := fun Z' H s s' => by show n ≤ _; simp
def smI (i : Int) : Bool := decide (-(2 ^ 62) ≤ i) && decide (i < 2 ^ 62)
theorem smI_inv {i : Int} (h : smI i = true) : -(2 ^ 62) ≤ i ∧ i < 2 ^ 62 := by
  unfold smI at h
  rw [Bool.and_eq_true] at h
  exact ⟨of_decide_eq_true h.1, of_decide_eq_true h.2⟩
def RA.bindI (r : RA) (k : List AV → Env' → RI) : RI :=
  match r with
  | .ok as e => k as e
  | .ex x e => .ex x e
  | .no => .no
theorem useAI {G : Gd} {Z H : Hp} {B : List (Nat × Addr)} {σ : St} {env : Env'} {P : List V → Hp → Prop} {Q : List D → Hp → Hp → Env' → Prop} {k : List AV → Env' → RI} (E : EOk T G B Z H σ env) (h : PRI T W G B Z σ Q ((fa env).bindI k))
    (go : ∀ vs H1 Z1 e as, Same Z Z1 → EOk T G B Z1 H1 σ e → AVOk T Z1 σ vs as → (∀ ds e', k as e = .ok ds e' → ∀ H' Z', Same Z1 Z' → EOk T G B Z' H' σ e' → Q ds H' Z' e') → k as e ≠ .no → (∀ x e', k as e = .ex x e' → ∀ cls d H' Z', Same Z1 Z' → EOk T G B Z' H' σ e' → XRep T Z' H' cls d x → W cls d σ H') → P vs H1) : tXA T W fa σ H P := by
  refine ⟨G, B, Z, env, E, ?_⟩
  cases q : fa env with
  | ok as e =>
    rw [q] at h
    intro vs H' Z' s E' r
    refine go vs H' Z' e as s E' r (fun ds e' hk H2 Z2 s2 E2 => ?_) (fun hk => ?_) (fun x e' hk c d H2 Z2 s2 E2 r2 => ?_)
    · have h' : PRI T W G B Z σ Q (k as e) := h
      rw [hk] at h'
      exact h' H2 Z2 (s.trans s2) E2
    · have h' : PRI T W G B Z σ Q (k as e) := h
      rw [hk] at h'
      exact h'
    · have h' : PRI T W G B Z σ Q (k as e) := h
      rw [hk] at h'
      exact h' c d H2 Z2 (s.trans s2) E2 r2
  | ex x e => rw [q] at h; exact h
  | no => rw [q] at h; exact h.elim
/-- all ints -/
def avI : List AV → Option (List Int)
  | [] => some []
  | .d (.int i) :: as => (avI as).map (i :: ·)
  | _ :: _ => none
theorem AVOk.ints {Z : Hp} {σ : St} : ∀ {vs : List V} {as : List AV} {is : List Int}, AVOk T Z σ vs as → avI as = some is → vs = is.map V.int
  | [], [], _, _, e => by cases e; rfl
  | v :: vs, .d (.int i) :: as, is, h, e => by
    have e' : (avI as).map (i :: ·) = some is := e
    cases q : avI as with
    | none => rw [q] at e'; cases e'
    | some r =>
      rw [q] at e'
      cases e'
      obtain ⟨h1, h2⟩ := h
      cases h1
      rw [AVOk.ints h2 q]
      rfl
  | _ :: _, .d .non :: _, _, _, e => by cases e
  | _ :: _, .d (.bl _) :: _, _, _, e => by cases e
  | _ :: _, .d (.str _) :: _, _, _, e => by cases e
  | _ :: _, .d (.tup _) :: _, _, _, e => by cases e
  | _ :: _, .d (.lst _) :: _, _, _, e => by cases e
  | _ :: _, .d (.ro _) :: _, _, _, e => by cases e
  | _ :: _, .d (.obj _ _) :: _, _, _, e => by cases e
  | _ :: _, .d (.fn _) :: _, _, _, e => by cases e
  | _ :: _, .d (.ty _) :: _, _, _, e => by cases e
  | _ :: _, .d (.cls _) :: _, _, _, e => by cases e
  | _ :: _, .s _ :: _, _, _, e => by cases e
  | [], .d _ :: _, _, h, _ => h.elim
  | [], .s _ :: _, _, h, _ => h.elim
  | _ :: _, [], _, h, _ => h.elim
def iR1 (fa : Env' → RA) : Env' → RI := fun env => (fa env).bindI fun as e => match avI as with
  | some [j] => if smI j then .ok (rngD 0 j) e else .no
  | _ => .no
def iR2 (fa : Env' → RA) : Env' → RI := fun env => (fa env).bindI fun as e => match avI as with
  | some [i, j] => if smI i && smI j then .ok (rngD i j) e else .no
  | _ => .no
/-- range(a, b, -1) -/
def dwnD (lo hi : Int) : List D := (List.range (lo - hi).toNat).map fun (i : Nat) => .int (lo - i)
def iR3 (fa : Env' → RA) : Env' → RI := fun env => (fa env).bindI fun as e => match avI as with
  | some [i, j, -1] => if smI i && smI j then .ok (dwnD i j) e else .no
  | _ => .no
theorem si_r1 {p : Pos} (hg : Gl X "range") (hm : X.mg "range" = none) (ha : SA X T W [a] fa) (hs : starEach [a] X.env = [(false, eval a X.env)] := by rfl) : SI X T W tg (.Call (.Name "range" p) [a] [] pos) (iR1 fa) := by
  refine PI.weak (pi_range1 hg hm ha hs) fun σ H Rr ⟨G, B, Z, env, E, q⟩ => ?_
  refine useAI E q fun vs H1 Z1 e as s E1 r h1 h2 h3 => ?_
  split at h2
  · rename_i j hj
    have hv := r.ints hj
    by_cases hs : smI j = true
    · rw [hj] at h1
      simp only [hs, if_true] at h1
      obtain ⟨l1, l2⟩ := smI_inv hs
      refine ⟨j, hv, l1, l2, h1 _ _ rfl H1 Z1 (Same.refl _) E1 _ ?_⟩
      unfold rngD
      rw [Int.sub_zero]
      exact walk_rng
    · exact (h2 (if_neg hs)).elim
  · exact (h2 rfl).elim
theorem si_r2 {p : Pos} (hg : Gl X "range") (hm : X.mg "range" = none) (ha : SA X T W [a, b] fa) (hs : starEach [a, b] X.env = [(false, eval a X.env), (false, eval b X.env)] := by rfl) (hs2 : starEach [b] X.env = [(false, eval b X.env)] := by rfl) :
    SI X T W tg (.Call (.Name "range" p) [a, b] [] pos) (iR2 fa) := by
  refine PI.weak (pi_range2 hg hm ha hs hs2) fun σ H Rr ⟨G, B, Z, env, E, q⟩ => ?_
  refine useAI E q fun vs H1 Z1 e as s E1 r h1 h2 h3 => ?_
  split at h2
  · rename_i i j hj
    have hv := r.ints hj
    by_cases hs : (smI i && smI j) = true
    · rw [hj] at h1
      simp only [hs, if_true] at h1
      rw [Bool.and_eq_true] at hs
      obtain ⟨l1, l2⟩ := smI_inv hs.1
      obtain ⟨l3, l4⟩ := smI_inv hs.2
      exact ⟨i, j, hv, ⟨l1, l2, l3, l4⟩, h1 _ _ rfl H1 Z1 (Same.refl _) E1 _ walk_rng⟩
    · exact (h2 (if_neg hs)).elim
  · exact (h2 rfl).elim
theorem walk_dwn {Z : Hp} {lo : Int} {n : Nat} : Walk T Z (Itc lo (-1) n) ((List.range n).map fun (i : Nat) => .int (lo - i)) where
  go := fun i d Z' H e s s' => by
    rw [List.getElem?_map] at e
    cases q : (List.range n)[i]? with
    | none => rw [q] at e; cases e
    | some j =>
      rw [q] at e
      cases e
      obtain ⟨hi, ej⟩ := List.getElem?_eq_some_iff.mp q
      rw [List.length_range] at hi
      rw [List.getElem_range] at ej
      subst ej
      refine ⟨hi, fun x H' y => ?_⟩
      obtain ⟨rfl, rfl⟩ := y
      refine ⟨Z', Same.refl _, ?_, .inl ⟨rfl, rfl⟩⟩
      have e : lo + (i : Int) * -1 = lo - i := by omega
      rw [e]
      exact .int _
  stop := fun Z' H s s' => by show n ≤ _; simp
theorem si_r3 {p : Pos} (hg : Gl X "range") (hm : X.mg "range" = none) (ha : SA X T W [a, b, c] fa) (hs : starEach [a, b, c] X.env = (false, eval a X.env) :: starEach [b, c] X.env := by rfl) (hs2 : (backTo pos (starEach [b, c] X.env)).any (·.1) = false := by rfl) :
    SI X T W tg (.Call (.Name "range" p) [a, b, c] [] pos) (iR3 fa) := by
  refine PI.weak (pi_range3 hg hm ha hs hs2) fun σ H Rr ⟨G, B, Z, env, E, q⟩ => ?_
  refine useAI E q fun vs H1 Z1 e as s E1 r h1 h2 h3 => ?_
  split at h2
  · rename_i i j hj
    have hv := r.ints hj
    by_cases hs : (smI i && smI j) = true
    · rw [hj] at h1
      simp only [hs, if_true] at h1
      rw [Bool.and_eq_true] at hs
      obtain ⟨l1, l2⟩ := smI_inv hs.1
      obtain ⟨l3, l4⟩ := smI_inv hs.2
      exact ⟨i, j, -1, (i - j).toNat, hv, RgC.neg l1 l2 l3 l4, h1 _ _ rfl H1 Z1 (Same.refl _) E1 _ walk_dwn⟩
    · exact (h2 (if_neg hs)).elim
  · exact (h2 rfl).elim

/-! ### while -/
/-- n: how many turns at most -/
def whL (c : Env' → RT) (t : Env' → RS) : Nat → Env' → RS
  | 0, _ => .no
  | n + 1, e => match c e with
    | .ok true e1 => (match t e1 with
      | .nx e2 => whL c t n e2
      | .ct e2 => whL c t n e2
      | .bk e2 => .nx e2
      | .rt r e2 => .rt r e2
      | .ex x e2 => .ex x e2
      | .no => .no)
    | .ok false e1 => .nx e1
    | .ex x e1 => .ex x e1
    | .no => .no
def sWh (n : Env' → Nat) (c : Env' → RT) (t : Env' → RS) : Env' → RS := fun e => whL c t (n e) e
theorem ss_while {body : List Stmt} (n : Env' → Nat) (hp : PassesOwn (model X.prog X.w) X.A X.env X.xe) (hc : ST X T W c tt) (hb : SSs X T W body t) : SS X T W (.While c body [] pos) (sWh n tt t) := by
  refine PS.weak (ps_while hp hc hb) fun K σ H ⟨G, B, Z, env, E, q⟩ => ?_
  refine ⟨fun m σ H => ∃ Z2 e2, Same Z Z2 ∧ EOk T G B Z2 H σ e2 ∧ PRS T W G B Z2 K (whL tt t m e2), ⟨n env, Z, env, Same.refl _, E, q⟩, ?_⟩
  rintro m σ2 H2 ⟨Z2, e2, s2, E2, q2⟩
  cases m with
  | zero => exact q2.elim
  | succ m =>
    unfold whL at q2
    refine ⟨G, B, Z2, e2, E2, ?_⟩
    cases hc : tt e2 with
    | no => rw [hc] at q2; exact q2.elim
    | ex x e => rw [hc] at q2; exact fun c d H' Z' s E r => q2 c d _ H' Z' s E r
    | ok b e =>
      rw [hc] at q2
      cases b with
      | false =>
        intro H' Z' s E'
        show if false = true then _ else _
        rw [if_neg Bool.false_ne_true]
        exact q2 σ2 H' Z' s E'
      | true =>
        dsimp only at q2
        intro H3 Z3 s3 E3
        show if true = true then _ else _
        rw [if_pos rfl]
        refine ⟨fun σ' H' => ∃ Z4 e4, Same Z Z4 ∧ EOk T G B Z4 H' σ' e4 ∧ PRS T W G B Z4 K (whL tt t m e4), fun σ' H' ⟨Z4, e4, s4, E4, q4⟩ => ⟨m, Nat.lt_succ_self m, Z4, e4, s4, E4, q4⟩, G, B, Z3, e, E3, ?_⟩
        cases ht : t e with
        | nx e4 => rw [ht] at q2; exact fun σ' H' Z4 s4 E5 => ⟨Z4, e4, (s2.trans s3).trans s4, E5, PRS.mono (s3.trans s4) (r := whL tt t m e4) q2⟩
        | ct e4 => rw [ht] at q2; exact fun σ' H' Z4 s4 E5 => ⟨Z4, e4, (s2.trans s3).trans s4, E5, PRS.mono (s3.trans s4) (r := whL tt t m e4) q2⟩
        | bk e4 => rw [ht] at q2; exact fun σ' H' Z4 s4 E5 => q2 σ' H' Z4 (s3.trans s4) E5
        | rt r e4 => rw [ht] at q2; exact fun v σ' H' Z4 s4 E5 r5 => q2 v σ' H' Z4 (s3.trans s4) E5 r5
        | ex x e4 => rw [ht] at q2; exact fun c d σ' H' Z4 s4 E5 r5 => q2 c d σ' H' Z4 (s3.trans s4) E5 r5
        | no => rw [ht] at q2; exact q2.elim
end
end L2.S

set_option Elab.async false
set_option linter.all false
set_option maxRecDepth 100000
set_option maxHeartbeats 4000000
namespace L2.S
open PySem PySem.Spec PyProof.Rows
/-! ### comprehensions -/
def isOwn : SV → Bool | .own _ _ => true | _ => false
def canWipe (e : Env') (vs : List Nat) : Bool := vs.all fun v => match e[v]? with | some w => !isOwn w | none => false
def wipeE (e : Env') : List Nat → Env'
  | [] => e
  | v :: vs => (wipeE e vs).set v .un
def backE (e0 e : Env') : List Nat → Env'
  | [] => e
  | v :: vs => (backE e0 e vs).set v (e0.getD v .un)
theorem wipeE_length (e : Env') : ∀ vs, (wipeE e vs).length = e.length
  | [] => rfl
  | v :: vs => by unfold wipeE; rw [List.length_set, wipeE_length e vs]
theorem backE_length (e0 e : Env') : ∀ vs, (backE e0 e vs).length = e.length
  | [] => rfl
  | v :: vs => by unfold backE; rw [List.length_set, backE_length e0 e vs]
theorem wipeE_out {e : Env'} {j : Nat} : ∀ {vs}, j ∉ vs → (wipeE e vs)[j]? = e[j]?
  | [], _ => rfl
  | v :: vs, h => by
    rw [List.mem_cons, not_or] at h
    unfold wipeE
    rw [List.getElem?_set_ne (fun z => h.1 z.symm), wipeE_out h.2]
theorem wipeE_in {e : Env'} {j : Nat} (hj : j < e.length) : ∀ {vs}, j ∈ vs → (wipeE e vs)[j]? = some .un
  | v :: vs, h => by
    unfold wipeE
    by_cases z : v = j
    · subst z
      rw [List.getElem?_set_self (by rw [wipeE_length]; exact hj)]
    · rw [List.getElem?_set_ne z]
      exact wipeE_in hj ((List.mem_cons.mp h).resolve_left fun q => z q.symm)
theorem wipe_none {σ : St} {j : Nat} (hj : j < σ.length) : ∀ {vs}, j ∈ vs → (wipe σ vs)[j]? = some none
  | v :: vs, h => by
    unfold wipe
    by_cases z : v = j
    · subst z
      rw [List.getElem?_set_self (by rw [wipe_length]; exact hj)]
    · rw [List.getElem?_set_ne z]
      exact wipe_none hj ((List.mem_cons.mp h).resolve_left fun q => z q.symm)
theorem wipe_out' {σ : St} {j : Nat} : ∀ {vs : List Nat}, j ∉ vs → (wipe σ vs)[j]? = σ[j]?
  | [], _ => rfl
  | v :: vs, h => by
    rw [List.mem_cons, not_or] at h
    unfold wipe
    rw [List.getElem?_set_ne (fun z => h.1 z.symm), wipe_out' h.2]
theorem backE_out {e0 e : Env'} {j : Nat} : ∀ {vs}, j ∉ vs → (backE e0 e vs)[j]? = e[j]?
  | [], _ => rfl
  | v :: vs, h => by
    rw [List.mem_cons, not_or] at h
    unfold backE
    rw [List.getElem?_set_ne (fun z => h.1 z.symm), backE_out h.2]
theorem backE_in {e0 e : Env'} {j : Nat} (hj : j < e.length) : ∀ {vs}, j ∈ vs → (backE e0 e vs)[j]? = some (e0.getD j .un)
  | v :: vs, h => by
    unfold backE
    by_cases z : v = j
    · subst z
      rw [List.getElem?_set_self (by rw [backE_length]; exact hj)]
    · rw [List.getElem?_set_ne z]
      exact backE_in hj ((List.mem_cons.mp h).resolve_left fun q => z q.symm)
theorem wipe_same {σ τ : St} {vs : List Nat} (hl : σ.length = τ.length) (h : ∀ j, j ∉ vs → σ[j]? = τ[j]?) : wipe σ vs = wipe τ vs := by
  refine List.ext_getElem? fun j => ?_
  by_cases hj : j ∈ vs
  · by_cases hb : j < σ.length
    · rw [wipe_none hb hj, wipe_none (by rw [← hl]; exact hb) hj]
    · rw [List.getElem?_eq_none (by rw [wipe_length]; omega), List.getElem?_eq_none (by rw [wipe_length]; omega)]
  · rw [wipe_out' hj, wipe_out' hj, h j hj]
theorem wipe_wipe (σ : St) (vs : List Nat) : wipe (wipe σ vs) vs = wipe σ vs := wipe_same (by rw [wipe_length]) fun j hj => wipe_out' hj
theorem canWipe_at {e : Env'} {vs : List Nat} (h : canWipe e vs = true) {v : Nat} (hv : v ∈ vs) : v < e.length ∧ ∀ b o, e[v]? ≠ some (.own b o) := by
  have q := List.all_eq_true.mp h v hv
  cases hw : e[v]? with
  | none => rw [hw] at q; cases q
  | some w =>
    rw [hw] at q
    refine ⟨(List.getElem?_eq_some_iff.mp hw).1, fun b o z => ?_⟩
    cases z
    cases q
section
variable {T : Tb} {G : Gd} {Z Z' H H' : Hp} {B : List (Nat × Addr)} {σ : St} {e e0 : Env'} {vs : List Nat}
theorem own_wipe (hl : σ.length = e.length) {j : Nat} {a : Addr} (o : Own (wipe σ vs) (wipeE e vs) j a) : j ∉ vs ∧ Own σ e j a := by
  obtain ⟨⟨b, o, q⟩, q2⟩ := o
  by_cases hj : j ∈ vs
  · by_cases hb : j < e.length
    · rw [wipeE_in hb hj] at q; cases q
    · rw [List.getElem?_eq_none (by rw [wipeE_length]; omega)] at q; cases q
  · rw [wipeE_out hj] at q
    rw [wipe_out' hj] at q2
    exact ⟨hj, ⟨b, o, q⟩, q2⟩
theorem EOk.wipe (E : EOk T G B Z H σ e) (h : canWipe e vs = true) : EOk T G B Z H (wipe σ vs) (wipeE e vs) := by
  refine ⟨by rw [wipe_length, wipeE_length]; exact E.len, E.sub, E.nof, E.keep, fun j d q => ?_, fun j b o q => ?_, fun j b q => ?_, fun j k b n o1 o2 => E.dis j k b n (own_wipe E.len o1).2 (own_wipe E.len o2).2⟩
  · by_cases hj : j ∈ vs
    · rw [wipeE_in (canWipe_at h hj).1 hj] at q; cases q
    · rw [wipeE_out hj] at q
      rw [wipe_out' hj]
      exact E.val j d q
  · by_cases hj : j ∈ vs
    · rw [wipeE_in (canWipe_at h hj).1 hj] at q; cases q
    · rw [wipeE_out hj] at q
      rw [wipe_out' hj]
      exact E.own j b o q
  · obtain ⟨⟨o, q1⟩, q2⟩ := E.bor j b q
    have hj : j ∉ vs := fun hj => (canWipe_at h hj).2 _ _ q1
    exact ⟨⟨o, by rw [wipeE_out hj]; exact q1⟩, by rw [wipe_out' hj]; exact q2⟩
theorem EOk.back (E0 : EOk T G B Z H σ e0) (hw : canWipe e0 vs = true) (E : EOk T G B Z' H' (L2.wipe σ vs) e) (s : Same Z Z') : EOk T G B Z' H' σ (backE e0 e vs) := by
  have hle : e.length = e0.length := by rw [← E.len, wipe_length, E0.len]
  have at0 : ∀ j, j ∈ vs → e0[j]? = some (e0.getD j .un) := fun j hj => by
    have hb := (canWipe_at hw hj).1
    rw [List.getD_eq_getElem?_getD, List.getElem?_eq_getElem hb]
    rfl
  have own' : ∀ j a, Own σ (backE e0 e vs) j a → j ∉ vs ∧ Own (L2.wipe σ vs) e j a := fun j a ⟨⟨b, o, q⟩, q2⟩ => by
    by_cases hj : j ∈ vs
    · rw [backE_in (by rw [hle]; exact (canWipe_at hw hj).1) hj, ← at0 j hj] at q
      exact ((canWipe_at hw hj).2 _ _ q).elim
    · rw [backE_out hj] at q
      exact ⟨hj, ⟨b, o, q⟩, by rw [wipe_out' hj]; exact q2⟩
  refine ⟨by rw [backE_length, hle]; exact E0.len, E.sub, E.nof, E.keep, fun j d q => ?_, fun j b o q => ?_, fun j b q => ?_, fun j k b n o1 o2 => E.dis j k b n (own' j b o1).2 (own' k b o2).2⟩
  · by_cases hj : j ∈ vs
    · rw [backE_in (by rw [hle]; exact (canWipe_at hw hj).1) hj, ← at0 j hj] at q
      obtain ⟨v, q1, q2⟩ := E0.val j d q
      exact ⟨v, q1, q2.mono s⟩
    · rw [backE_out hj] at q
      have := E.val j d q
      rw [wipe_out' hj] at this
      exact this
  · by_cases hj : j ∈ vs
    · rw [backE_in (by rw [hle]; exact (canWipe_at hw hj).1) hj, ← at0 j hj] at q
      exact ((canWipe_at hw hj).2 _ _ q).elim
    · rw [backE_out hj] at q
      have := E.own j b o q
      rw [wipe_out' hj] at this
      exact this
  · obtain ⟨⟨o, q1⟩, q2⟩ := E.bor j b q
    have hj : j ∉ vs := fun hj => by
      rw [wipe_none (by rw [E0.len]; exact (canWipe_at hw hj).1) hj] at q2
      cases q2
    rw [wipe_out' hj] at q2
    exact ⟨⟨o, by rw [backE_out hj]; exact q1⟩, q2⟩
/-- the list at p kept from a part's evaluation -/
def Gd.hold (G : Gd) (p : Addr) (o : HO) : Gd := ⟨upd G.g p o, fun a => if a = p then none else G.z a⟩
theorem EOk.hold (E : EOk T G B Z H σ e) {p : Addr} {o : HO} (h : H p = some o) (n : ∀ i, ¬ Own σ e i p) (hz : Z p = none) (hg : G.g p = none) : EOk T (G.hold p o) B Z H σ e where
  len := E.len
  sub := E.sub
  nof := fun a h1 h2 => by
    by_cases ha : a = p
    · rw [ha]; exact hz
    · refine E.nof a ?_ ?_
      · have h1 : upd G.g p o a ≠ none := h1
        rw [upd_ne ha] at h1
        exact h1
      · have h2 : (if a = p then none else G.z a) = none := h2
        rw [if_neg ha] at h2
        exact h2
  keep := fun a u q nb => by
    have q : upd G.g p o a = some u := q
    by_cases ha : a = p
    · rw [ha, upd_same] at q
      rw [ha, h]
      exact q
    · rw [upd_ne ha] at q
      exact E.keep a u q nb
  val := E.val
  own := fun i b u q => by
    obtain ⟨a, h', q1, q2, q3, q4, q5⟩ := E.own i b u q
    refine ⟨a, h', q1, q2, q3, q4, q5.imp id fun ⟨z1, z2⟩ => ⟨z1, ?_⟩⟩
    show upd G.g p o a = none
    rw [upd_ne fun z => n i ⟨⟨_, _, q⟩, by rw [← z]; exact q1⟩]
    exact z2
  bor := E.bor
  dis := E.dis
theorem EOk.unhold {p : Addr} {o : HO} (E : EOk T (G.hold p o) B Z H σ e) (hg : G.g p = none) (hb : ∀ i, (i, p) ∉ B) : EOk T G B Z H σ e ∧ H p = some o ∧ (∀ i, ¬ Own σ e i p) ∧ Z p = none := by
  have hp : H p = some o := E.keep p o (by show upd G.g p o p = _; exact upd_same) hb
  refine ⟨⟨E.len, E.sub, fun a h1 h2 => ?_, fun a u q nb => ?_, E.val, fun i b u q => ?_, E.bor, E.dis⟩, hp, fun i ⟨⟨b, u, q⟩, q2⟩ => ?_, ?_⟩
  · have ha : a ≠ p := fun z => h1 (by rw [z]; exact hg)
    refine E.nof a ?_ ?_
    · show upd G.g p o a ≠ none
      rw [upd_ne ha]; exact h1
    · show (if a = p then none else G.z a) = none
      rw [if_neg ha]; exact h2
  · have ha : a ≠ p := fun z => by rw [z, hg] at q; cases q
    exact E.keep a u (by show upd G.g p o a = _; rw [upd_ne ha]; exact q) nb
  · obtain ⟨a, h', q1, q2, q3, q4, q5⟩ := E.own i b u q
    refine ⟨a, h', q1, q2, q3, q4, q5.imp id fun ⟨z1, z2⟩ => ⟨z1, ?_⟩⟩
    have z2 : upd G.g p o a = none := z2
    by_cases ha : a = p
    · rw [ha]; exact hg
    · rw [upd_ne ha] at z2; exact z2
  · obtain ⟨a, h', q1, q2', q3, q4, q5⟩ := E.own i b u q
    rw [q2] at q1
    cases q1
    rcases q5 with ⟨_, z⟩ | ⟨_, z⟩
    · exact hb i z
    · have z : upd G.g p o p = none := z
      rw [upd_same] at z
      cases z
  · refine E.nof p ?_ ?_
    · show upd G.g p o p ≠ none
      rw [upd_same]
      exact fun z => nomatch z
    · show (if p = p then none else G.z p) = none
      rw [if_pos rfl]
/-- a list that no slot owns and that is not fixed, written -/
theorem EOk.put (E : EOk T G B Z H σ e) {p : Addr} {o : HO} (n : ∀ i, ¬ Own σ e i p) (hz : Z p = none) (hg : G.g p = none) : EOk T G B Z (upd H p o) σ e where
  len := E.len
  sub := fun a u q => by
    rw [upd_ne (ne_of_none q hz)]
    exact E.sub a u q
  nof := E.nof
  keep := fun a u q nb => by
    rw [upd_ne (ne_of_none q hg)]
    exact E.keep a u q nb
  val := E.val
  own := fun i b u q => by
    obtain ⟨a, h', q1, q2, q3⟩ := E.own i b u q
    refine ⟨a, h', q1, ?_, q3⟩
    rw [upd_ne fun z => n i ⟨⟨_, _, q⟩, by rw [← z]; exact q1⟩]
    exact q2
  bor := E.bor
  dis := E.dis
end
abbrev W0 : WX := fun _ _ _ _ => False
def lcL (vs : List Nat) (h : D → Env' → Option Env') (c : Env' → RT) (f : Env' → R) : List D → List D → Env' → Option (List D × Env')
  | [], acc, e => some (acc, e)
  | d :: ds, acc, e => match h d e with
    | none => none
    | some e1 => match c e1 with
      | .ok true e2 => (match (f e2) with
        | .ok r e3 => (match fz r with
          | some y => if acc.length < 16777216 ∧ canWipe e3 vs = true then lcL vs h c f ds (acc ++ [y]) (wipeE e3 vs) else none
          | none => none)
        | _ => none)
      | .ok false e2 => if canWipe e2 vs = true then lcL vs h c f ds acc (wipeE e2 vs) else none
      | _ => none
def cLc (fi : Env' → RI) (vs : List Nat) (h : D → Env' → Option Env') (c : Env' → RT) (f : Env' → R) : Env' → R := fun env => match fi env with
  | .ok ds e => if canWipe e vs = true then (match lcL vs h c f ds [] (wipeE e vs) with | some (acc, e') => .ok (.o (.l acc)) (backE e e' vs) | none => .no) else .no
  | .ex x e => .ex x e
  | .no => .no
section
variable {X : Cx} {T : Tb} {W : WX}
def STs (X : Cx) (T : Tb) (W : WX) (ifs : List Expr) (c : Env' → RT) : Prop := PTs X ifs (tXT T W c)
def cYes : Env' → RT := fun e => .ok true e
theorem PTs.weak {ifs : List Expr} {t t' : TT} (h : PTs X ifs t) (w : ∀ σ H Q, t' σ H Q → t σ H Q) : PTs X ifs t' := ⟨fun pins s σ H Q I q => h.run pins s σ H Q I (w _ _ _ q)⟩
theorem sts_0 : STs X T W [] cYes := PTs.weak pts_nil fun σ H Q ⟨G, B, Z, env, E, q⟩ => q H Z (Same.refl _) E
theorem sts_1 {c : Expr} {t : Env' → RT} (h : ST X T W c t) : STs X T W [c] t := pts_one h
theorem lc_reads {fi : Env' → RI} {js vs : List Nat} {h : D → Env' → Option Env'} {c : Env' → RT} {f : Env' → R} (hj : ∀ j ∈ js, j ∈ vs) (σ : St) (H : Hp) (Q : VK) (q : tX T W (cLc fi vs h c f) σ H Q) :
    tLc (tXI T W fi) (fun v σ H Q => ∃ G B Z env d e, EOk T G B Z H σ env ∧ Rep T Z v d ∧ h d env = some e ∧ ∀ σ', (∀ j, j ∉ js → σ'[j]? = σ[j]?) → σ'.length = σ.length → EOk T G B Z H σ' e → Q σ' H) (tXT T W0 c) (tX T W0 f) vs σ H Q := by
  obtain ⟨G, B, Z, env, E, q⟩ := q
  refine ⟨G, B, Z, env, E, ?_⟩
  unfold cLc at q
  cases hf : fi env with
  | no => rw [hf] at q; exact q.elim
  | ex x e => rw [hf] at q; exact q
  | ok ds e =>
    rw [hf] at q
    dsimp only at q
    intro H1 Z1 s1 E1 J w p hp
    by_cases hw : canWipe e vs = true
    · rw [if_pos hw] at q
      cases hL : lcL vs h c f ds [] (wipeE e vs) with
      | none => rw [hL] at q; exact q.elim
      | some r =>
        obtain ⟨accF, eF⟩ := r
        rw [hL] at q
        have hbB : ∀ i, (i, p) ∉ B := fun i hi => by
          obtain ⟨⟨o, q1⟩, q2⟩ := E1.bor i p hi
          exact E1.nown hp i ⟨⟨_, _, q1⟩, q2⟩
        have hgp : G.g p = none := E1.gnone hp
        refine ⟨fun i m H => m = ds.length - i ∧ i ≤ ds.length ∧ ∃ Z2 e2 acc va, Same Z1 Z2 ∧ EOk T G B Z2 H (wipe σ vs) e2 ∧ H p = some (.lst va) ∧ Z2 p = none ∧ (∀ i, ¬ Own (wipe σ vs) e2 i p) ∧ Reps T Z2 va acc ∧ lcL vs h c f (ds.drop i) acc e2 = some (accF, eF),
          ⟨_, rfl, Nat.zero_le _, Z1, wipeE e vs, [], [], Same.refl _, (E1.new hp).wipe hw, upd_same, E1.znone hp, fun i o => E1.nown hp i (own_wipe E1.len o).2, .nil, hL⟩, ?_⟩
        rintro i m H2 ⟨rfl, hle, Z2, e2, acc, va, s2, E2, hpv, hzp, hno, rr, hl2⟩
        by_cases hlt : i < ds.length
        · have hd : ds[i]? = some ds[i] := List.getElem?_eq_getElem hlt
          obtain ⟨go, yld⟩ := w.go i ds[i] Z2 H2 hd s2 E2.sub
          have hdrop : ds.drop i = ds[i] :: ds.drop (i + 1) := List.drop_eq_getElem_cons hlt
          rw [hdrop] at hl2
          unfold lcL at hl2
          refine .inr ⟨go, fun H' => ∃ Z3 e3 acc va, Same Z1 Z3 ∧ EOk T G B Z3 H' (wipe σ vs) e3 ∧ H' p = some (.lst va) ∧ Z3 p = none ∧ (∀ i, ¬ Own (wipe σ vs) e3 i p) ∧ Reps T Z3 va acc ∧ lcL vs h c f (ds.drop (i + 1)) acc e3 = some (accF, eF),
            fun H' ⟨Z3, e3, a3, v3, k1, k2, k3, k4, k5, k6, k7⟩ => ⟨ds.length - (i + 1), by omega, rfl, hlt, Z3, e3, a3, v3, k1, k2, k3, k4, k5, k6, k7⟩, fun x H' y => ?_⟩
          obtain ⟨Z3, s3, r3, hy⟩ := yld x H' y
          have E3 := E2.yield hy
          have hpv3 : H' p = some (.lst va) := by
            rcases hy with ⟨rfl, _⟩ | ⟨t, o, ht, rfl, _⟩
            · exact hpv
            · rw [upd_ne (ne_of_none hpv ht)]; exact hpv
          have hzp3 : Z3 p = none := by
            rcases hy with ⟨_, rfl⟩ | ⟨t, o, ht, _, rfl⟩
            · exact hzp
            · rw [upd_ne (ne_of_none hpv ht)]; exact hzp
          cases hh : h ds[i] e2 with
          | none => rw [hh] at hl2; cases hl2
          | some e3 =>
            rw [hh] at hl2
            dsimp only at hl2
            have EH := E3.hold hpv3 hno hzp3 hgp
            refine ⟨G.hold p (.lst va), B, Z3, e2, ds[i], e3, EH, r3, hh, fun σ3 n3 l3 E4 => ⟨?_, ?_⟩⟩
            · rw [wipe_same (τ := wipe σ vs) l3 fun j hjv => n3 j fun z => hjv (hj j z), wipe_wipe]
            have hw3 : wipe σ3 vs = wipe σ vs := by rw [wipe_same (τ := wipe σ vs) l3 fun j hjv => n3 j fun z => hjv (hj j z), wipe_wipe]
            refine ⟨G.hold p (.lst va), B, Z3, e3, E4, ?_⟩
            cases hc : c e3 with
            | no => rw [hc] at hl2; cases hl2
            | ex x e => rw [hc] at hl2; cases hl2
            | ok b e4 =>
              rw [hc] at hl2
              cases b with
              | false =>
                dsimp only at hl2
                by_cases hw4 : canWipe e4 vs = true
                · rw [if_pos hw4] at hl2
                  intro H5 Z5 s5 E5
                  show if false = true then _ else _
                  rw [if_neg Bool.false_ne_true]
                  have E6 := E5.wipe hw4
                  rw [hw3] at E6
                  obtain ⟨E7, k1, k2, k3⟩ := E6.unhold hgp hbB
                  exact ⟨Z5, wipeE e4 vs, acc, va, (s2.trans s3).trans s5, E7, k1, k3, k2, rr.mono (s3.trans s5), hl2⟩
                · rw [if_neg hw4] at hl2; cases hl2
              | true =>
                dsimp only at hl2
                intro H5 Z5 s5 E5
                show if true = true then _ else _
                rw [if_pos rfl]
                refine ⟨G.hold p (.lst va), B, Z5, e4, E5, ?_⟩
                cases hfe : f e4 with
                | no => rw [hfe] at hl2; cases hl2
                | ex x e => rw [hfe] at hl2; cases hl2
                | ok r e5 =>
                  rw [hfe] at hl2
                  dsimp only at hl2
                  cases hfz : fz r with
                  | none => rw [hfz] at hl2; cases hl2
                  | some y =>
                    rw [hfz] at hl2
                    dsimp only at hl2
                    by_cases hw5 : acc.length < 16777216 ∧ canWipe e5 vs = true
                    · rw [if_pos hw5] at hl2
                      intro v H6 Z6 s6 E6 r6
                      obtain ⟨Z7, s7, E7, r7⟩ : ∃ Z7, Same Z6 Z7 ∧ EOk T (G.hold p (.lst va)) B Z7 H6 σ3 e5 ∧ Rep T Z7 v y := by
                        cases r with
                        | d d => cases hfz; exact ⟨Z6, Same.refl _, E6, r6⟩
                        | o o =>
                          cases o with
                          | s c xs => cases hfz
                          | l xs =>
                            cases hfz
                            exact frozen E6 r6
                      have E8 := E7.wipe hw5.2
                      rw [hw3] at E8
                      obtain ⟨E9, k1, k2, k3⟩ := E8.unhold hgp hbB
                      have rr7 := rr.mono ((s3.trans s5).trans (s6.trans s7))
                      refine ⟨va, k1, by rw [rr7.length, SZ_eq]; exact hw5.1, Z7, wipeE e5 vs, acc ++ [y], va ++ [v], (s2.trans s3).trans (s5.trans (s6.trans s7)), E9.put k2 k3 hgp, upd_same, k3, k2, rr7.append (.cons r7 .nil), hl2⟩
                    · rw [if_neg hw5] at hl2; cases hl2
        · have e0 : i = ds.length := by omega
          subst e0
          rw [List.drop_length] at hl2
          cases hl2
          refine .inl ⟨w.stop Z2 H2 s2 E2.sub, q _ H2 Z2 (s1.trans s2) (E1.back hw E2 s2) ⟨p, _, rfl, hpv, ⟨va, rfl, rr⟩, hzp, hgp, fun i ⟨⟨b, o, k1⟩, k2⟩ => ?_⟩⟩
          by_cases hi : i ∈ vs
          · rw [backE_in (by rw [← E2.len, wipe_length, E1.len]; exact (canWipe_at hw hi).1) hi] at k1
            have hb := (canWipe_at hw hi).1
            refine (canWipe_at hw hi).2 b o ?_
            rw [List.getElem?_eq_getElem hb]
            rw [List.getD_eq_getElem?_getD, List.getElem?_eq_getElem hb] at k1
            exact k1
          · rw [backE_out hi] at k1
            exact hno i ⟨⟨b, o, k1⟩, by rw [wipe_out' hi]; exact k2⟩
    · rw [if_neg hw] at q; exact q.elim
theorem se_lc {elt tg iter : Expr} {ifs : List Expr} {scope : Scope} {own : List (Str × Nat)} {pos : Pos} {fi : Env' → RI} {js : List Nat} {vs : List Nat} {h : D → Env' → Option Env'} {c : Env' → RT} {f : Env' → R} (hc : X.calm = true) (hN : X.N.Nodup) (hi : SI X T W tg iter fi) (ok : BlkOk X.N X.env.scope scope own)
    (hg : ∀ (s : Shared) (H : Hp) (C : Addr) (cl : List (Str × Addr)) (fp : List Addr), SG (X.blk s H scope (compEnvC scope cl C X.env) fp) T tg js h) (ht : ∀ (s : Shared) (H : Hp) (C : Addr) (cl : List (Str × Addr)) (fp : List Addr), STs (X.blk s H scope (compEnvC scope cl C X.env) fp) T W0 ifs c)
    (he : ∀ (s : Shared) (H : Hp) (C : Addr) (cl : List (Str × Addr)) (fp : List Addr), SE (X.blk s H scope (compEnvC scope cl C X.env) fp) T W0 elt f) (hvs : own.map (·.2) = vs := by rfl) (hj : ∀ j ∈ js, j ∈ vs := by decide) (hs : ∀ x, foldedSetIterable iter X.env x = pure x := by intro _; rfl) :
    SE X T W (.ListComp elt [⟨tg, iter, ifs, 0⟩] scope pos) (cLc fi vs h c f) := by
  subst hvs
  exact PE.weak (pe_lc hc hN hi ok hg ht he hs) (lc_reads hj)
theorem ss_setLc {i : Nat} {y : Str} {py : Pos} {elt tg iter : Expr} {ifs : List Expr} {scope : Scope} {own : List (Str × Nat)} {pos spos : Pos} {fi : Env' → RI} {js : List Nat} {vs : List Nat} {h : D → Env' → Option Env'} {c : Env' → RT} {f : Env' → R} (hc : X.calm = true) (hN : X.N.Nodup) (hi : SI X T W tg iter fi) (ok : BlkOk X.N X.env.scope scope own)
    (hg : ∀ (s : Shared) (H : Hp) (C : Addr) (cl : List (Str × Addr)) (fp : List Addr), SG (X.blk s H scope (compEnvC scope cl C X.env) fp) T tg js h) (ht : ∀ (s : Shared) (H : Hp) (C : Addr) (cl : List (Str × Addr)) (fp : List Addr), STs (X.blk s H scope (compEnvC scope cl C X.env) fp) T W0 ifs c)
    (he : ∀ (s : Shared) (H : Hp) (C : Addr) (cl : List (Str × Addr)) (fp : List Addr), SE (X.blk s H scope (compEnvC scope cl C X.env) fp) T W0 elt f)
    (hsw : swapsWith (.ListComp elt [⟨tg, iter, ifs, 0⟩] scope pos) (some (.Name y py)) spos.line X.env = pure true := by exact sw_true rfl rfl rfl (by decide +kernel)) (hy : X.N[i]? = some y := by rfl) (hyl : X.env.scope.names.lookup y = some .local := by rfl) (hvs : own.map (·.2) = vs := by rfl) (hj : ∀ j ∈ js, j ∈ vs := by decide) (hs : ∀ x, foldedSetIterable iter X.env x = pure x := by intro _; rfl) :
    SS X T W (.Assign [.Name y py] (.ListComp elt [⟨tg, iter, ifs, 0⟩] scope pos) spos) (sSet i (cLc fi vs h c f)) := by
  subst hvs
  exact PS.weak (ps_setLc hc hN hy hyl hsw hi ok hg ht he hs) fun K σ H q => by
    have k := set_reads (i := i) rfl K σ H q
    exact lc_reads hj σ H _ k
theorem ss_setLcO {i : Nat} {y : Str} {py : Pos} {elt tg iter : Expr} {ifs : List Expr} {scope : Scope} {own : List (Str × Nat)} {pos spos : Pos} {fi : Env' → RI} {js : List Nat} {vs : List Nat} {h : D → Env' → Option Env'} {c : Env' → RT} {f : Env' → R} (hc : X.calm = true) (hN : X.N.Nodup) (hi : SI X T W tg iter fi) (ok : BlkOk X.N X.env.scope scope own)
    (hg : ∀ (s : Shared) (H : Hp) (C : Addr) (cl : List (Str × Addr)) (fp : List Addr), SG (X.blk s H scope (compEnvC scope cl C X.env) fp) T tg js h) (ht : ∀ (s : Shared) (H : Hp) (C : Addr) (cl : List (Str × Addr)) (fp : List Addr), STs (X.blk s H scope (compEnvC scope cl C X.env) fp) T W0 ifs c)
    (he : ∀ (s : Shared) (H : Hp) (C : Addr) (cl : List (Str × Addr)) (fp : List Addr), SE (X.blk s H scope (compEnvC scope cl C X.env) fp) T W0 elt f)
    (hsw : swapsWith (.ListComp elt [⟨tg, iter, ifs, 0⟩] scope pos) (some (.Name y py)) spos.line X.env = pure true := by exact sw_true rfl rfl rfl (by decide +kernel)) (hy : X.N[i]? = some y := by rfl) (hyl : X.env.scope.names.lookup y = some .local := by rfl) (hvs : own.map (·.2) = vs := by rfl) (hj : ∀ j ∈ js, j ∈ vs := by decide) (hs : ∀ x, foldedSetIterable iter X.env x = pure x := by intro _; rfl) :
    SS X T W (.Assign [.Name y py] (.ListComp elt [⟨tg, iter, ifs, 0⟩] scope pos) spos) (sSetO i (cLc fi vs h c f)) := by
  subst hvs
  exact PS.weak (ps_setLc hc hN hy hyl hsw hi ok hg ht he hs) fun K σ H q => by
    have k := setO_reads (i := i) rfl K σ H q
    exact lc_reads hj σ H _ k
end
end L2.S

set_option Elab.async false
set_option linter.all false
set_option maxRecDepth 100000
set_option maxHeartbeats 4000000
namespace L2.S
open PySem PySem.Spec PyProof.Rows
/-! ### defs -/
inductive RF where
  | ok (r : RV) (outs : List (Nat × OB)) | ex (x : Ex) (outs : List (Nat × OB)) | no
abbrev Fn := List SV → RF
/-- the arguments that are lent: place, address -/
def lentA (vs : List V) (as : List SV) : List (Nat × Addr) := (List.range as.length).filterMap fun (i : Nat) => match as[i]?, vs[i]? with | some (SV.own _ _), some (V.ref a) => some (i, a) | _, _ => none
theorem mem_lentA {vs : List V} {as : List SV} {i : Nat} {a : Addr} : (i, a) ∈ lentA vs as ↔ (∃ b o, as[i]? = some (.own b o)) ∧ vs[i]? = some (.ref a) := by
  unfold lentA
  rw [List.mem_filterMap]
  constructor
  · rintro ⟨j, _, h⟩
    split at h
    · rename_i b o c h1 h2
      cases h
      exact ⟨⟨_, _, h1⟩, h2⟩
    · cases h
  · rintro ⟨⟨b, o, h1⟩, h2⟩
    refine ⟨i, List.mem_range.mpr (List.getElem?_eq_some_iff.mp h1).1, ?_⟩
    rw [h1, h2]
structure ArgsOk (T : Tb) (Z H : Hp) (vs : List V) (as : List SV) : Prop where
  len : vs.length = as.length
  val : ∀ (i : Nat) (d : D), as[i]? = some (.val d) → ∃ v, vs[i]? = some v ∧ Rep T Z v d
  own : ∀ (i : Nat) (b : Bool) (o : OB), as[i]? = some (.own b o) → b = true ∧ ∃ a h, vs[i]? = some (.ref a) ∧ H a = some h ∧ ORep T Z h o ∧ Z a = none
  dis : ∀ i j a, i ≠ j → (i, a) ∈ lentA vs as → (j, a) ∉ lentA vs as
def outsA (i : Nat) : List SV → Env' → List (Nat × OB)
  | [], _ => []
  | _ :: _, [] => []
  | w :: as, x :: e => match w, x with
    | .own _ _, .own _ o => (i, o) :: outsA (i + 1) as e
    | _, _ => outsA (i + 1) as e
theorem outsA_get : ∀ {as : List SV} {e : Env'} (i j : Nat) {b c : Bool} {o o' : OB}, as[j]? = some (.own b o) → e[j]? = some (.own c o') → (outsA i as e).lookup (i + j) = some o'
  | [], _, _, _, _, _, _, _, h, _ => by simp at h
  | _ :: _, [], _, _, _, _, _, _, _, h => by simp at h
  | w :: as, x :: e, i, 0, b, c, o, o', h1, h2 => by
    simp at h1 h2
    subst h1; subst h2
    simp [outsA]
  | w :: as, x :: e, i, j + 1, b, c, o, o', h1, h2 => by
    have ih := outsA_get (as := as) (e := e) (i + 1) j (b := b) (c := c) (o := o) (o' := o') (by simpa using h1) (by simpa using h2)
    have e1 : i + 1 + j = i + (j + 1) := by omega
    rw [e1] at ih
    unfold outsA
    split
    · rw [List.lookup_cons]
      have : (i + (j + 1) == i) = false := by simp
      rw [this]
      exact ih
    · exact ih
/-- the result as the caller sees it -/
def ResOk (T : Tb) (H Z' H' : Hp) (v : V) : RV → Prop
  | .d d => Rep T Z' v d
  | .o o => ∃ a h, v = .ref a ∧ H' a = some h ∧ ORep T Z' h o ∧ Z' a = none ∧ H a = none
/-- behind a call -/
structure After (T : Tb) (Z H Z' H' : Hp) (vs : List V) (as : List SV) (outs : List (Nat × OB)) : Prop where
  zz : Same Z Z'
  sub : Same Z' H'
  keep : ∀ a o, H a = some o → (∀ i, (i, a) ∉ lentA vs as) → H' a = some o
  nof : ∀ a, H a ≠ none → Z a = none → Z' a = none
  outs : ∀ i a, (i, a) ∈ lentA vs as → ∃ o h, outs.lookup i = some o ∧ H' a = some h ∧ ORep T Z' h o ∧ Z' a = none
def PF (T : Tb) (Z H : Hp) (vs : List V) (as : List SV) (Q : VK) (E : XK) : RF → Prop
  | .ok r outs => ∀ v H' Z', After T Z H Z' H' vs as outs → ResOk T H Z' H' v r → Q v H'
  | .ex x outs => ∀ cls d H' Z', After T Z H Z' H' vs as outs → XRep T Z' H' cls d x → E cls d H'
  | .no => False
/-- the promise of a def that does what φ says -/
def sp (T : Tb) (φ : Fn) : Sp := fun vs H Q E => ∃ Z as, Same Z H ∧ ArgsOk T Z H vs as ∧ PF T Z H vs as Q E (φ as)
/-- what a body makes of its arguments; n: the number of its names -/
def bodyF (g : Env' → RS) (n : Nat) (as : List SV) : RF := match g (as ++ List.replicate (n - as.length) .un) with
  | .rt r e => .ok r (outsA 0 as e)
  | .nx e => .ok (.d .non) (outsA 0 as e)
  | .ex x e => .ex x (outsA 0 as e)
  | _ => .no
theorem EOk.start {T : Tb} {Z H : Hp} {vs : List V} {as : List SV} {N : List Str} (s : Same Z H) (A : ArgsOk T Z H vs as) (hl : as.length ≤ N.length) : EOk T ⟨H, Z⟩ (lentA vs as) Z H (start N vs) (as ++ List.replicate (N.length - as.length) .un) := by
  have av : ∀ (j : Nat) (w : SV), (as ++ List.replicate (N.length - as.length) SV.un)[j]? = some w → w ≠ .un → as[j]? = some w := fun j w q hn => by
    by_cases hj : j < as.length
    · rw [List.getElem?_append_left hj] at q; exact q
    · rw [List.getElem?_append_right (by omega), List.getElem?_replicate] at q
      split at q
      · cases q; exact (hn rfl).elim
      · cases q
  have vv : ∀ (j : Nat) (v : V), vs[j]? = some v → (L2.start N vs)[j]? = some (some v) := fun j v q => by
    have hj := (List.getElem?_eq_some_iff.mp q).1
    unfold L2.start
    rw [List.getElem?_append_left (by simpa using hj), List.getElem?_map, q]
    rfl
  have oo : ∀ j a, Own (L2.start N vs) (as ++ List.replicate (N.length - as.length) SV.un) j a → (j, a) ∈ lentA vs as := fun j a ⟨⟨b, o, q⟩, q2⟩ => by
    have q' := av j _ q (fun z => nomatch z)
    obtain ⟨_, a', h, e1, _⟩ := A.own j b o q'
    have := vv j _ e1
    rw [q2] at this
    cases this
    exact mem_lentA.mpr ⟨⟨b, o, q'⟩, e1⟩
  refine ⟨?_, s, fun a h1 h2 => h2, fun a o q _ => q, fun j d q => ?_, fun j b o q => ?_, fun j a q => ?_, fun j k a n o1 o2 => A.dis j k a n (oo j a o1) (oo k a o2)⟩
  · unfold L2.start
    rw [List.length_append, List.length_append, List.length_map, List.length_replicate, List.length_replicate, A.len]
  · obtain ⟨v, e1, r⟩ := A.val j d (av j _ q (fun z => nomatch z))
    exact ⟨v, vv j v e1, r⟩
  · have q' := av j _ q (fun z => nomatch z)
    obtain ⟨eb, a, h, e1, e2, e3, e4⟩ := A.own j b o q'
    exact ⟨a, h, vv j _ e1, e2, e3, e4, .inl ⟨eb, mem_lentA.mpr ⟨⟨b, o, q'⟩, e1⟩⟩⟩
  · obtain ⟨⟨b, o, q1⟩, q2⟩ := mem_lentA.mp q
    obtain ⟨eb, _⟩ := A.own j b o q1
    subst eb
    refine ⟨⟨o, ?_⟩, vv j _ q2⟩
    rw [List.getElem?_append_left (List.getElem?_eq_some_iff.mp q1).1]
    exact q1
theorem EOk.after {T : Tb} {Z H Z' H' : Hp} {vs : List V} {as : List SV} {σ : St} {e : Env'} (A : ArgsOk T Z H vs as) (s : Same Z Z') (E : EOk T ⟨H, Z⟩ (lentA vs as) Z' H' σ e) : After T Z H Z' H' vs as (outsA 0 as e) where
  zz := s
  sub := E.sub
  keep := fun a o q n => E.keep a o q n
  nof := fun a h1 h2 => E.nof a h1 h2
  outs := fun i a q => by
    obtain ⟨⟨o, q1⟩, q2⟩ := E.bor i a q
    obtain ⟨a', h, e1, e2, e3, e4, _⟩ := E.own i true o q1
    rw [q2] at e1
    cases e1
    obtain ⟨⟨b, o', k1⟩, k2⟩ := mem_lentA.mp q
    have := outsA_get 0 i k1 q1
    rw [Nat.zero_add] at this
    exact ⟨o, h, this, e2, e3, e4⟩
/-- THE RULE for a def -/
theorem fn_s {P : Program} {w : World} {K : PySem.W.Frag} {mg : Str → Option Value} {base : Heap} {T : Tb} {x qual : Str} {st : Stmt} {f : Addr} {fd : FuncData} {N ps : List Str} {k : Nat} {φ : Fn} {g : Env' → RS} (F : Fun K x qual st f fd) (S : FnScope N ps (defScope st))
    (hn : ∀ as, φ as ≠ .no → as.length = ps.length ∧ bodyF g N.length as = φ as)
    (body : ∀ (cdv : Value) (A : Around) (outer : List Env) (s : Shared) (H : Hp) (E : XK), Room k (A.deeper (envOfC qual (defScope st) s.heap.objs.size f cdv)) →
      SSs (cxOf (L2.CX P w) P w K mg base N qual (defScope st) f cdv A outer s H E) T (fun cls d _ H => E cls d H) (defBody st) g) :
    FnOk P w K mg base (L2.CX P w) (k + 1) f fd ps (sp T φ) := by
  have hpl : ps.length ≤ N.length := by have := congrArg List.length S.pre; rw [List.length_take] at this; omega
  refine F.okX S (fun vs H Q E ⟨Z, as, s, A, q⟩ => ?_) (fun cdv A outer s H vs Q E hr ⟨Z, as, ss, AA, q⟩ => ⟨_, body cdv A outer s H E hr, ?_⟩)
  · rw [A.len]
    refine (hn as fun z => ?_).1
    rw [z] at q
    exact q
  · have hno : φ as ≠ .no := fun z => by rw [z] at q; exact q
    obtain ⟨hl, hb⟩ := hn as hno
    refine ⟨⟨H, Z⟩, lentA vs as, Z, _, EOk.start ss AA (by rw [hl]; exact hpl), ?_⟩
    rw [← hb] at q
    unfold bodyF at q
    cases hg : g (as ++ List.replicate (N.length - as.length) .un) with
    | rt r e =>
      rw [hg] at q
      intro v σ' H' Z' s' E' r'
      refine q v H' Z' (E'.after AA s') ?_
      cases r with
      | d d => exact r'
      | o o =>
        obtain ⟨a, h, e1, e2, e3, e4, e5, _⟩ := r'
        exact ⟨a, h, e1, e2, e3, e4, e5⟩
    | nx e =>
      rw [hg] at q
      intro σ' H' Z' s' E'
      exact q .non H' Z' (E'.after AA s') .non
    | ex x e =>
      rw [hg] at q
      intro c d σ' H' Z' s' E' r'
      exact q c d H' Z' (E'.after AA s') r'
    | bk e => rw [hg] at q; exact q.elim
    | ct e => rw [hg] at q; exact q.elim
    | no => rw [hg] at q; exact q.elim

/-! ### calls -/
def svs (e : Env') : List AV → Option (List SV)
  | [] => some []
  | .d d :: as => (svs e as).map (.val d :: ·)
  | .s i :: as => match e[i]? with | some (.own _ o) => (svs e as).map (.own true o :: ·) | _ => none
def slots : List AV → List Nat
  | [] => []
  | .d _ :: as => slots as
  | .s i :: as => i :: slots as
def setO (e : Env') (i : Nat) (o : OB) : Env' := match e[i]? with | some (.own b _) => e.set i (.own b o) | _ => e
def putA (k : Nat) (e : Env') (outs : List (Nat × OB)) : List AV → Env'
  | [] => e
  | .d _ :: as => putA (k + 1) e outs as
  | .s i :: as => putA (k + 1) (match outs.lookup k with | some o => setO e i o | none => e) outs as
def callR (φ : Fn) (dds : List D) (avs : List AV) (e : Env') : R := match svs e avs with
  | some as => if (slots avs).Nodup then (match φ (as ++ dds.map .val) with
    | .ok r outs => .ok r (putA 0 e outs avs)
    | .ex x outs => .ex x (putA 0 e outs avs)
    | .no => .no) else .no
  | none => .no
theorem svs_get {e : Env'} : ∀ {avs : List AV} {as : List SV}, svs e avs = some as → as.length = avs.length ∧ ∀ (k : Nat), (∀ d, avs[k]? = some (.d d) → as[k]? = some (.val d)) ∧ (∀ i, avs[k]? = some (.s i) → ∃ b o, e[i]? = some (.own b o) ∧ as[k]? = some (.own true o))
  | [], _, h => by cases h; exact ⟨rfl, fun k => ⟨fun d q => by simp at q, fun i q => by simp at q⟩⟩
  | .d d :: avs, as, h => by
    have h' : (svs e avs).map (SV.val d :: ·) = some as := h
    cases q : svs e avs with
    | none => rw [q] at h'; cases h'
    | some r =>
      rw [q] at h'
      cases h'
      obtain ⟨h1, h2⟩ := svs_get q
      refine ⟨by rw [List.length_cons, List.length_cons, h1], fun k => ?_⟩
      cases k with
      | zero => exact ⟨fun d' q' => by simp at q'; simp [q'], fun i q' => by simp at q'⟩
      | succ k => exact ⟨fun d' q' => by simpa using (h2 k).1 d' (by simpa using q'), fun i q' => by simpa using (h2 k).2 i (by simpa using q')⟩
  | .s i :: avs, as, h => by
    unfold svs at h
    split at h
    · rename_i b o he
      cases q : svs e avs with
      | none => rw [q] at h; cases h
      | some r =>
        rw [q] at h
        cases h
        obtain ⟨h1, h2⟩ := svs_get q
        refine ⟨by rw [List.length_cons, List.length_cons, h1], fun k => ?_⟩
        cases k with
        | zero => exact ⟨fun d' q' => by simp at q', fun j q' => by simp at q'; subst q'; exact ⟨b, o, he, by simp⟩⟩
        | succ k => exact ⟨fun d' q' => by simpa using (h2 k).1 d' (by simpa using q'), fun i q' => by simpa using (h2 k).2 i (by simpa using q')⟩
    · cases h
theorem avok_get {T : Tb} {Z : Hp} {σ : St} : ∀ {vs : List V} {as : List AV}, AVOk T Z σ vs as → vs.length = as.length ∧ ∀ (k : Nat), (∀ d, as[k]? = some (.d d) → ∃ v, vs[k]? = some v ∧ Rep T Z v d) ∧ (∀ i, as[k]? = some (.s i) → ∃ v, vs[k]? = some v ∧ σ[i]? = some (some v))
  | [], [], _ => ⟨rfl, fun k => ⟨fun d q => by simp at q, fun i q => by simp at q⟩⟩
  | v :: vs, .d d :: as, h => by
    obtain ⟨h1, h2⟩ := avok_get h.2
    refine ⟨by rw [List.length_cons, List.length_cons, h1], fun k => ?_⟩
    cases k with
    | zero => exact ⟨fun d' q => by simp at q; subst q; exact ⟨v, by simp, h.1⟩, fun i q => by simp at q⟩
    | succ k => exact ⟨fun d' q => by simpa using (h2 k).1 d' (by simpa using q), fun i q => by simpa using (h2 k).2 i (by simpa using q)⟩
  | v :: vs, .s i :: as, h => by
    obtain ⟨h1, h2⟩ := avok_get h.2
    refine ⟨by rw [List.length_cons, List.length_cons, h1], fun k => ?_⟩
    cases k with
    | zero => exact ⟨fun d' q => by simp at q, fun j q => by simp at q; subst q; exact ⟨v, by simp, h.1⟩⟩
    | succ k => exact ⟨fun d' q => by simpa using (h2 k).1 d' (by simpa using q), fun i q => by simpa using (h2 k).2 i (by simpa using q)⟩
  | [], .d _ :: _, h => h.elim
  | [], .s _ :: _, h => h.elim
  | _ :: _, [], h => h.elim
theorem mem_slots : ∀ {avs : List AV} {i : Nat}, i ∈ slots avs ↔ ∃ k : Nat, avs[k]? = some (.s i)
  | [], i => by simp [slots]
  | .d d :: avs, i => by
    rw [slots, mem_slots]
    exact ⟨fun ⟨k, h⟩ => ⟨k + 1, by simpa using h⟩, fun ⟨k, h⟩ => by
      cases k with
      | zero => simp at h
      | succ k => exact ⟨k, by simpa using h⟩⟩
  | .s j :: avs, i => by
    rw [slots, List.mem_cons, mem_slots]
    constructor
    · rintro (rfl | ⟨k, h⟩)
      · exact ⟨0, by simp⟩
      · exact ⟨k + 1, by simpa using h⟩
    · rintro ⟨k, h⟩
      cases k with
      | zero => simp at h; exact .inl h.symm
      | succ k => exact .inr ⟨k, by simpa using h⟩
theorem slots_inj : ∀ {avs : List AV} {i k l : Nat}, (slots avs).Nodup → avs[k]? = some (.s i) → avs[l]? = some (.s i) → k = l
  | [], _, _, _, _, h, _ => by simp at h
  | .d d :: avs, i, k, l, nd, h1, h2 => by
    cases k with
    | zero => simp at h1
    | succ k =>
      cases l with
      | zero => simp at h2
      | succ l => rw [slots_inj (avs := avs) (i := i) (k := k) (l := l) nd (by simpa using h1) (by simpa using h2)]
  | .s j :: avs, i, k, l, nd, h1, h2 => by
    have nd' := List.nodup_cons.mp nd
    cases k with
    | zero =>
      cases l with
      | zero => rfl
      | succ l =>
        simp at h1
        subst h1
        exact (nd'.1 (mem_slots.mpr ⟨l, by simpa using h2⟩)).elim
    | succ k =>
      cases l with
      | zero =>
        simp at h2
        subst h2
        exact (nd'.1 (mem_slots.mpr ⟨k, by simpa using h1⟩)).elim
      | succ l => rw [slots_inj (avs := avs) (i := i) (k := k) (l := l) nd'.2 (by simpa using h1) (by simpa using h2)]
theorem setO_length (e : Env') (i : Nat) (o : OB) : (setO e i o).length = e.length := by
  unfold setO
  split
  · rw [List.length_set]
  · rfl
theorem setO_ne {e : Env'} {i j : Nat} {o : OB} (h : i ≠ j) : (setO e i o)[j]? = e[j]? := by
  unfold setO
  split
  · rw [List.getElem?_set_ne h]
  · rfl
theorem setO_at {e : Env'} {i : Nat} {o o' : OB} {b : Bool} (h : e[i]? = some (.own b o')) : (setO e i o)[i]? = some (.own b o) := by
  unfold setO
  rw [h]
  exact List.getElem?_set_self (List.getElem?_eq_some_iff.mp h).1
theorem putA_length {outs : List (Nat × OB)} : ∀ {avs : List AV} (k : Nat) (e : Env'), (putA k e outs avs).length = e.length
  | [], _, _ => rfl
  | .d _ :: avs, k, e => putA_length (avs := avs) (k + 1) e
  | .s i :: avs, k, e => by
    show (putA (k + 1) _ outs avs).length = _
    rw [putA_length (avs := avs)]
    split
    · rw [setO_length]
    · rfl
theorem putA_out {outs : List (Nat × OB)} {j : Nat} : ∀ {avs : List AV} (k : Nat) (e : Env'), j ∉ slots avs → (putA k e outs avs)[j]? = e[j]?
  | [], _, _, _ => rfl
  | .d _ :: avs, k, e, h => putA_out (avs := avs) (k + 1) e h
  | .s i :: avs, k, e, h => by
    rw [slots, List.mem_cons, not_or] at h
    show (putA (k + 1) _ outs avs)[j]? = _
    rw [putA_out (avs := avs) _ _ h.2]
    split
    · exact setO_ne fun z => h.1 z.symm
    · rfl
theorem putA_at {outs : List (Nat × OB)} {i : Nat} {b : Bool} {o o' : OB} : ∀ {avs : List AV} (k l : Nat) (e : Env'), (slots avs).Nodup → avs[l]? = some (.s i) → e[i]? = some (.own b o') → outs.lookup (k + l) = some o → (putA k e outs avs)[i]? = some (.own b o)
  | [], _, _, _, _, h, _, _ => by simp at h
  | .d _ :: avs, k, l, e, nd, h, he, ho => by
    cases l with
    | zero => simp at h
    | succ l =>
      have e1 : k + (l + 1) = k + 1 + l := by omega
      rw [e1] at ho
      exact putA_at (avs := avs) (k + 1) l e nd (by simpa using h) he ho
  | .s j :: avs, k, l, e, nd, h, he, ho => by
    have nd' := List.nodup_cons.mp nd
    cases l with
    | zero =>
      simp at h
      subst h
      show (putA (k + 1) _ outs avs)[j]? = _
      rw [putA_out (avs := avs) _ _ nd'.1]
      rw [Nat.add_zero] at ho
      rw [ho]
      exact setO_at he
    | succ l =>
      have e1 : k + (l + 1) = k + 1 + l := by omega
      rw [e1] at ho
      have hij : j ≠ i := fun z => nd'.1 (mem_slots.mpr ⟨l, by rw [z]; simpa using h⟩)
      refine putA_at (o' := o') (avs := avs) (k + 1) l _ nd'.2 (by simpa using h) ?_ ho
      split
      · rw [setO_ne hij]; exact he
      · exact he
section
variable {T : Tb} {W : WX} {G : Gd} {B : List (Nat × Addr)} {Z H : Hp} {σ : St} {e : Env'} {vs : List V} {avs : List AV} {as : List SV} {φ : Fn} {Q : VK}
theorem args_ok (E : EOk T G B Z H σ e) (r : AVOk T Z σ vs avs) (hs : svs e avs = some as) (nd : (slots avs).Nodup) : ArgsOk T Z H vs as ∧ ∀ k a, (k, a) ∈ lentA vs as ↔ ∃ i, avs[k]? = some (.s i) ∧ Own σ e i a := by
  obtain ⟨l1, g1⟩ := svs_get hs
  obtain ⟨l2, g2⟩ := avok_get r
  have at_ : ∀ (k : Nat) (w : SV), as[k]? = some w → (∃ d, avs[k]? = some (.d d) ∧ w = .val d) ∨ ∃ i b o, avs[k]? = some (.s i) ∧ e[i]? = some (.own b o) ∧ w = .own true o := fun k w q => by
    have hk : k < avs.length := by rw [← l1]; exact (List.getElem?_eq_some_iff.mp q).1
    have hq : avs[k]? = some avs[k] := List.getElem?_eq_getElem hk
    cases hv : avs[k] with
    | d d =>
      rw [hv] at hq
      have := (g1 k).1 d hq
      rw [q] at this
      cases this
      exact .inl ⟨d, hq, rfl⟩
    | s i =>
      rw [hv] at hq
      obtain ⟨b, o, h1, h2⟩ := (g1 k).2 i hq
      rw [q] at h2
      cases h2
      exact .inr ⟨i, b, o, hq, h1, rfl⟩
  have mb : ∀ k a, (k, a) ∈ lentA vs as ↔ ∃ i, avs[k]? = some (.s i) ∧ Own σ e i a := fun k a => by
    constructor
    · intro q
      obtain ⟨⟨b, o, q1⟩, q2⟩ := mem_lentA.mp q
      rcases at_ k _ q1 with ⟨d, _, z⟩ | ⟨i, b', o', h1, h2, z⟩
      · cases z
      · obtain ⟨v, k1, k2⟩ := (g2 k).2 i h1
        rw [q2] at k1
        cases k1
        exact ⟨i, h1, ⟨b', o', h2⟩, k2⟩
    · rintro ⟨i, h1, ⟨_, _, _⟩, h3⟩
      obtain ⟨b', o', h4, h5⟩ := (g1 k).2 i h1
      obtain ⟨v, k1, k2⟩ := (g2 k).2 i h1
      rw [h3] at k2
      cases k2
      exact mem_lentA.mpr ⟨⟨_, _, h5⟩, k1⟩
  refine ⟨⟨by rw [l1, l2], fun k d q => ?_, fun k b o q => ?_, fun k l a n q1 q2 => ?_⟩, mb⟩
  · rcases at_ k _ q with ⟨d', h1, z⟩ | ⟨i, b, o, _, _, z⟩
    · cases z
      exact (g2 k).1 d h1
    · cases z
  · rcases at_ k _ q with ⟨d', h1, z⟩ | ⟨i, b', o', h1, h2, z⟩
    · cases z
    · cases z
      obtain ⟨v, k1, k2⟩ := (g2 k).2 i h1
      obtain ⟨a, h, e1, e2, e3, e4, _⟩ := E.own i b' o h2
      rw [k2] at e1
      cases e1
      exact ⟨rfl, a, h, k1, e2, e3, e4⟩
  · obtain ⟨i, h1, o1⟩ := (mb k a).mp q1
    obtain ⟨j, h2, o2⟩ := (mb l a).mp q2
    by_cases hij : i = j
    · subst hij
      exact n (slots_inj nd h1 h2)
    · exact E.dis i j a hij o1 o2
/-- back in the caller -/
theorem back_ok {Z' H' : Hp} {outs : List (Nat × OB)} (E : EOk T G B Z H σ e) (hs : svs e avs = some as) (nd : (slots avs).Nodup) (mb : ∀ k a, (k, a) ∈ lentA vs as ↔ ∃ i, avs[k]? = some (.s i) ∧ Own σ e i a) (A : After T Z H Z' H' vs as outs) : EOk T G B Z' H' σ (putA 0 e outs avs) := by
  have hn : ∀ a, G.g a ≠ none → H a ≠ none := fun a h1 h2 => h1 (E.gnone h2)
  have lent : ∀ {k i : Nat}, avs[k]? = some (.s i) → ∃ b o o' a h, e[i]? = some (.own b o') ∧ σ[i]? = some (some (.ref a)) ∧ (putA 0 e outs avs)[i]? = some (.own b o) ∧ H' a = some h ∧ ORep T Z' h o ∧ Z' a = none ∧ ((b = true ∧ (i, a) ∈ B) ∨ (b = false ∧ G.g a = none)) := fun {k i} h1 => by
    obtain ⟨b, o', h2, _⟩ := ((svs_get hs).2 k).2 i h1
    obtain ⟨a, h, e1, e2, e3, e4, e5⟩ := E.own i b o' h2
    obtain ⟨o, h', k1, k2, k3, k4⟩ := A.outs k a ((mb k a).mpr ⟨i, h1, ⟨b, o', h2⟩, e1⟩)
    exact ⟨b, o, o', a, h', h2, e1, putA_at 0 k e nd h1 h2 (by rw [Nat.zero_add]; exact k1), k2, k3, k4, e5⟩
  have own_ : ∀ i a, Own σ (putA 0 e outs avs) i a → Own σ e i a := fun i a ⟨⟨b, o, q⟩, q2⟩ => by
    by_cases hi : i ∈ slots avs
    · obtain ⟨k, hk⟩ := mem_slots.mp hi
      obtain ⟨b', o', o2, a', h, h1, _⟩ := lent hk
      exact ⟨⟨b', o2, h1⟩, q2⟩
    · rw [putA_out 0 e hi] at q
      exact ⟨⟨b, o, q⟩, q2⟩
  refine ⟨by rw [putA_length]; exact E.len, A.sub, fun a h1 h2 => A.nof a (hn a h1) (E.nof a h1 h2), fun a o q nb => A.keep a o (E.keep a o q nb) fun k hk => ?_, fun i d q => ?_, fun i b o q => ?_, fun i a q => ?_, fun i j a n o1 o2 => E.dis i j a n (own_ i a o1) (own_ j a o2)⟩
  · obtain ⟨i, h1, ⟨b, o', h2⟩, h3⟩ := (mb k a).mp hk
    obtain ⟨a', h, e1, _, _, _, e5⟩ := E.own i b o' h2
    rw [h3] at e1
    cases e1
    rcases e5 with ⟨_, z⟩ | ⟨_, z⟩
    · exact nb i z
    · rw [q] at z; cases z
  · by_cases hi : i ∈ slots avs
    · obtain ⟨k, hk⟩ := mem_slots.mp hi
      obtain ⟨b, o, _, a, h, _, _, h1, _⟩ := lent hk
      rw [q] at h1
      cases h1
    · rw [putA_out 0 e hi] at q
      obtain ⟨v, q1, q2⟩ := E.val i d q
      exact ⟨v, q1, q2.mono A.zz⟩
  · by_cases hi : i ∈ slots avs
    · obtain ⟨k, hk⟩ := mem_slots.mp hi
      obtain ⟨b', o', _, a, h, _, h0, h1, h2, h3, h4, h5⟩ := lent hk
      rw [q] at h1
      cases h1
      exact ⟨a, h, h0, h2, h3, h4, h5⟩
    · rw [putA_out 0 e hi] at q
      obtain ⟨a, h, e1, e2, e3, e4, e5⟩ := E.own i b o q
      refine ⟨a, h, e1, A.keep a h e2 fun k hk => ?_, e3.mono A.zz, A.nof a (by rw [e2]; exact fun z => nomatch z) e4, e5⟩
      obtain ⟨j, h1, oj⟩ := (mb k a).mp hk
      have hij : i ≠ j := fun z => hi (mem_slots.mpr ⟨k, by rw [z]; exact h1⟩)
      exact E.dis i j a hij ⟨⟨b, o, q⟩, e1⟩ oj
  · obtain ⟨⟨o, q1⟩, q2⟩ := E.bor i a q
    by_cases hi : i ∈ slots avs
    · obtain ⟨k, hk⟩ := mem_slots.mp hi
      obtain ⟨b', o', o2, a', h, h1, _, h2, _⟩ := lent hk
      rw [q1] at h1
      cases h1
      exact ⟨⟨o', h2⟩, q2⟩
    · exact ⟨⟨o, by rw [putA_out 0 e hi]; exact q1⟩, q2⟩
theorem res_ok {Z' H' : Hp} {outs : List (Nat × OB)} {v : V} {r : RV} (E : EOk T G B Z H σ e) (E' : EOk T G B Z' H' σ (putA 0 e outs avs)) (own_ : ∀ i a, Own σ (putA 0 e outs avs) i a → H a ≠ none) (rr : ResOk T H Z' H' v r) : RRep T G Z' H' σ (putA 0 e outs avs) v r := by
  cases r with
  | d d => exact rr
  | o o =>
    obtain ⟨a, h, e1, e2, e3, e4, e5⟩ := rr
    exact ⟨a, h, e1, e2, e3, e4, E.gnone e5, fun i oi => own_ i a oi e5⟩
theorem own_there {outs : List (Nat × OB)} (E : EOk T G B Z H σ e) (hs : svs e avs = some as) (i : Nat) (a : Addr) (o : Own σ (putA 0 e outs avs) i a) : H a ≠ none := by
  obtain ⟨⟨b, o, q⟩, q2⟩ := o
  have : ∃ b o, e[i]? = some (.own b o) := by
    by_cases hi : i ∈ slots avs
    · obtain ⟨k, hk⟩ := mem_slots.mp hi
      obtain ⟨b', o', h2, _⟩ := ((svs_get hs).2 k).2 i hk
      exact ⟨b', o', h2⟩
    · rw [putA_out 0 e hi] at q
      exact ⟨b, o, q⟩
  obtain ⟨b', o', h2⟩ := this
  obtain ⟨a', h, e1, e2, _⟩ := E.own i b' o' h2
  rw [q2] at e1
  cases e1
  rw [e2]
  exact fun z => nomatch z
/-- the defaults' values -/
def Dfl (T : Tb) (dvs : List V) (dds : List D) : Prop := ∀ Z, Reps T Z dvs dds
theorem ArgsOk.dfl (A : ArgsOk T Z H vs as) {dvs : List V} {dds : List D} (d : Dfl T dvs dds) : ArgsOk T Z H (vs ++ dvs) (as ++ dds.map .val) ∧ ∀ k a, (k, a) ∈ lentA (vs ++ dvs) (as ++ dds.map .val) ↔ (k, a) ∈ lentA vs as := by
  have rd := d Z
  have av : ∀ (k : Nat) (w : SV), (as ++ dds.map SV.val)[k]? = some w → as[k]? = some w ∨ (as.length ≤ k ∧ ∃ d, dds[k - as.length]? = some d ∧ w = .val d) := fun k w q => by
    by_cases hk : k < as.length
    · rw [List.getElem?_append_left hk] at q; exact .inl q
    · rw [List.getElem?_append_right (by omega), List.getElem?_map] at q
      cases z : dds[k - as.length]? with
      | none => rw [z] at q; cases q
      | some d => rw [z] at q; cases q; exact .inr ⟨by omega, d, rfl, rfl⟩
  have left : ∀ (k : Nat) (v : V), k < as.length → (vs ++ dvs)[k]? = some v → vs[k]? = some v := fun k v hk q => by
    rw [List.getElem?_append_left (by rw [A.len]; exact hk)] at q; exact q
  have right : ∀ (k : Nat) (v : V), vs[k]? = some v → (vs ++ dvs)[k]? = some v := fun k v q => by
    rw [List.getElem?_append_left (List.getElem?_eq_some_iff.mp q).1]; exact q
  have mb : ∀ k a, (k, a) ∈ lentA (vs ++ dvs) (as ++ dds.map .val) ↔ (k, a) ∈ lentA vs as := fun k a => by
    rw [mem_lentA, mem_lentA]
    constructor
    · rintro ⟨⟨b, o, q⟩, q2⟩
      rcases av k _ q with q | ⟨_, _, _, z⟩
      · exact ⟨⟨b, o, q⟩, left k _ (List.getElem?_eq_some_iff.mp q).1 q2⟩
      · cases z
    · rintro ⟨⟨b, o, q⟩, q2⟩
      refine ⟨⟨b, o, ?_⟩, right k _ q2⟩
      rw [List.getElem?_append_left (List.getElem?_eq_some_iff.mp q).1]
      exact q
  refine ⟨⟨by rw [List.length_append, List.length_append, List.length_map, A.len, rd.length], fun k d q => ?_, fun k b o q => ?_, fun k l a n q1 q2 => A.dis k l a n ((mb k a).mp q1) ((mb l a).mp q2)⟩, mb⟩
  · rcases av k _ q with q | ⟨hk, d', q, z⟩
    · obtain ⟨v, h1, h2⟩ := A.val k d q
      exact ⟨v, right k v h1, h2⟩
    · cases z
      obtain ⟨v, h1, h2⟩ := rd.get q
      exact ⟨v, by rw [List.getElem?_append_right (by rw [A.len]; exact hk), A.len]; exact h1, h2⟩
  · rcases av k _ q with q | ⟨hk, d', q, z⟩
    · obtain ⟨eb, a, h, h1, h2⟩ := A.own k b o q
      exact ⟨eb, a, h, right k _ h1, h2⟩
    · cases z
theorem After.dfl {Z' H' : Hp} {outs : List (Nat × OB)} {vs' : List V} {as' : List SV} (A : After T Z H Z' H' vs' as' outs) (mb : ∀ k a, (k, a) ∈ lentA vs' as' ↔ (k, a) ∈ lentA vs as) : After T Z H Z' H' vs as outs :=
  ⟨A.zz, A.sub, fun a o q n => A.keep a o q fun i hi => n i ((mb i a).mp hi), A.nof, fun i a q => A.outs i a ((mb i a).mpr q)⟩
/-- what a caller shows of the promise -/
theorem call_sp {dvs : List V} {dds : List D} (dfl : Dfl T dvs dds) (E : EOk T G B Z H σ e) (r : AVOk T Z σ vs avs) (h : PR T W G B Z σ Q (callR φ dds avs e)) : sp T φ (vs ++ dvs) H Q (fun cls d H' => W cls d σ H') := by
  unfold callR at h
  cases hs : svs e avs with
  | none => rw [hs] at h; exact h.elim
  | some as =>
    rw [hs] at h
    dsimp only at h
    by_cases nd : (slots avs).Nodup
    · rw [if_pos nd] at h
      obtain ⟨A, mb⟩ := args_ok E r hs nd
      obtain ⟨A2, mb2⟩ := A.dfl dfl
      refine ⟨Z, as ++ dds.map .val, E.sub, A2, ?_⟩
      cases hφ : φ (as ++ dds.map .val) with
      | no => rw [hφ] at h; exact h.elim
      | ok r outs =>
        rw [hφ] at h
        intro v H' Z' Af rr
        have Af' := Af.dfl mb2
        have E' := back_ok E hs nd mb Af'
        exact h v H' Z' Af.zz E' (res_ok E E' (own_there E hs) rr)
      | ex x outs =>
        rw [hφ] at h
        intro c d H' Z' Af rr
        have Af' := Af.dfl mb2
        exact h c d H' Z' Af.zz (back_ok E hs nd mb Af') rr
    · rw [if_neg nd] at h; exact h.elim
end
end L2.S

set_option Elab.async false
set_option linter.all false
set_option maxRecDepth 100000
set_option maxHeartbeats 4000000
namespace L2.S
open PySem PySem.Spec PyProof.Rows
section
variable {X : Cx} {CX : CXT} {k : Nat} {f C : Addr} {fd : FuncData} {ps : List Str} {sp : Sp} {dvs : List V} {ds : List Value} {E : St → XK} {x m : Str} {p pos apos : Pos} {e o : Expr} {es : List Expr} {ta : TE} {t : TA}
/-! ### calls that may raise, with defaults -/
theorem run_fnG {pins : List (Addr × Obj)} {σ : St} {H : Hp} {s : Shared} {Q : VK} {us : List Value} {vs : List V} {E : XK} (F : FnOk X.prog X.w X.K X.mg X.base CX k f fd ps sp) (hr : Room k X.A) (hb : Binds X.K fd ps ds) (hd : Vals dvs ds) (hx : PassesAt CX X σ E)
    (I : Inv X pins σ H s) (r : Vals vs us) (h : sp (vs ++ dvs) H Q E) : wpAny (model X.prog X.w) X.A (call (.ref f) us) (EP X pins σ Q) X.xe s := by
  have r2 : Vals (vs ++ dvs) (us ++ ds) := r.append hd
  have hl : (us ++ ds).length = ps.length := by rw [← r2.length]; exact F.len _ _ _ _ h
  refine wpAny_call (codeAny_mono (F.run X.A X.stack s H ⟨us, []⟩ (us ++ ds) (vs ++ dvs) Q E hr I.env0 (hb s us I.kIn hl) r2 h) fun r s' hq => ?_)
  cases r with
  | error e => exact hx pins H s e s' I hq
  | ok fl =>
    cases fl with
    | ret u => exact I.after hq
    | next => exact False.elim hq
    | brk => exact False.elim hq
    | cont => exact False.elim hq
theorem pe_callG (F : FnOk X.prog X.w X.K X.mg X.base CX k f fd ps sp) (hr : Room k X.A) (hg : Gl X x) (hm : X.mg x = some (.ref f)) (hk : PySem.W.keepIn X.K (.ref f) = true) (hb : Binds X.K fd ps ds) (hd : Vals dvs ds) (hx : ∀ σ, PassesAt CX X σ (E σ))
    (ha : PA X (e :: es) t) (hdb : (x == ("__debug__" : Str)) = false := by decide) (he : starEach (e :: es) X.env = (false, eval e X.env) :: starEach es X.env := by rfl) (hpl : (backTo pos (starEach es X.env)).any (·.1) = false := by rfl) :
    PE X (.Call (.Name x p) (e :: es) [] pos) (fun σ H Q => t σ H fun vs H1 => sp (vs ++ dvs) H1 Q (E σ)) := by
  refine ⟨fun pins s σ H Q I h => ?_⟩
  refine wpAny_Call_Name_kw (ld_glob I hg hm ?_ hdb)
  refine PySem.W.callWith_K (h₀ := X.base) I.ok.mod.kin hk (thn (ha.run pos pins s σ H _ I h) fun us s1 ⟨vs, H1, I1, r, q⟩ => ⟨I1.kIn, ?_⟩) he hpl
  exact run_fnG F hr hb hd (hx σ) I1 r q
theorem pe_callG0 (F : FnOk X.prog X.w X.K X.mg X.base CX k f fd ps sp) (hr : Room k X.A) (hg : Gl X x) (hm : X.mg x = some (.ref f)) (hk : PySem.W.keepIn X.K (.ref f) = true) (hb : Binds X.K fd ps ds) (hd : Vals dvs ds) (hx : ∀ σ, PassesAt CX X σ (E σ))
    (hdb : (x == ("__debug__" : Str)) = false := by decide) : PE X (.Call (.Name x p) [] [] pos) (fun σ H Q => sp ([] ++ dvs) H Q (E σ)) := by
  refine ⟨fun pins s σ H Q I h => ?_⟩
  refine wpAny_Call_Name_kw (ld_glob I hg hm ?_ hdb)
  exact PySem.W.callWith_K0 I.kIn hk (run_fnG (us := []) F hr hb hd (hx σ) I .nil h)
theorem pe_methG {pl : Sem Bool} (he : PE X o ta) (c : Cls X.K C) (hm : Meth X.K C m f) (F : FnOk X.prog X.w X.K X.mg X.base CX k f fd ps sp) (hr : Room k X.A) (hb : Binds X.K fd ps ds) (hd : Vals dvs ds) (hx : ∀ σ, PassesAt CX X σ (E σ)) (ha : PA X (e :: es) t)
    (hst : starEach (e :: es) X.env = (false, eval e X.env) :: starEach es X.env := by rfl) (hpl : (backTo pos (starEach es X.env)).any (·.1) = false := by rfl)
    (ht : eval (.Call (.Attribute o m apos) (e :: es) [] pos) X.env = (do
      let ov ← eval o X.env
      standAt apos.atName
      let (f, first) ← holding [ov] (getMethod ov m pl)
      callWith pos f first (backTo pos (starEach (e :: es) X.env)) (backToKw pos (keywordEach [] X.env))) := by rfl) :
    PE X (.Call (.Attribute o m apos) (e :: es) [] pos) (fun σ H Q => ta σ H fun x H1 => ∃ a dx fs, x = .ref a ∧ H1 a = some (.ins C dx fs) ∧ fs.lookup m = none ∧ t σ H1 fun vs H2 => sp (x :: (vs ++ dvs)) H2 Q (E σ)) := by
  refine ⟨fun pins s σ H Q I h => ?_⟩
  refine PySem.W.methodCall_KW (pl := pl) (thn (he.run pins s σ H _ I h) fun u s1 ⟨x, H1, I1, rx, a, dx, fs, ex, ea, l, q⟩ => ?_) ht
  subst ex
  obtain rfl : u = Value.ref a := rx
  refine getmeth_ok I1 ea c hm l ?_
  refine PySem.W.callWith_K (first := [.ref a]) (h₀ := X.base) I.ok.mod.kin hm.kp (thn (ha.run pos pins s1 σ H1 _ I1 q) fun us s2 ⟨vs, H2, I2, r, q2⟩ => ⟨I2.kIn, ?_⟩) hst hpl
  exact run_fnG (us := .ref a :: us) (vs := .ref a :: vs) F hr hb hd (hx σ) I2 (.cons rfl r) q2
theorem pe_methG0 {pl : Sem Bool} (he : PE X o ta) (c : Cls X.K C) (hm : Meth X.K C m f) (F : FnOk X.prog X.w X.K X.mg X.base CX k f fd ps sp) (hr : Room k X.A) (hb : Binds X.K fd ps ds) (hd : Vals dvs ds) (hx : ∀ σ, PassesAt CX X σ (E σ))
    (ht : eval (.Call (.Attribute o m apos) [] [] pos) X.env = (do
      let ov ← eval o X.env
      standAt apos.atName
      let (f, first) ← holding [ov] (getMethod ov m pl)
      callWith pos f first (backTo pos (starEach [] X.env)) (backToKw pos (keywordEach [] X.env))) := by rfl) :
    PE X (.Call (.Attribute o m apos) [] [] pos) (fun σ H Q => ta σ H fun x H1 => ∃ a dx fs, x = .ref a ∧ H1 a = some (.ins C dx fs) ∧ fs.lookup m = none ∧ sp (x :: ([] ++ dvs)) H1 Q (E σ)) := by
  refine ⟨fun pins s σ H Q I h => ?_⟩
  refine PySem.W.methodCall_KW (pl := pl) (thn (he.run pins s σ H _ I h) fun u s1 ⟨x, H1, I1, rx, a, dx, fs, ex, ea, l, q⟩ => ?_) ht
  subst ex
  obtain rfl : u = Value.ref a := rx
  refine getmeth_ok I1 ea c hm l ?_
  exact PySem.W.callWith_K0 (first := [.ref a]) I1.kIn hm.kp (run_fnG (us := [.ref a]) (vs := [.ref a]) F hr hb hd (hx σ) I1 (.cons rfl .nil) q)
theorem run_makeG {pins : List (Addr × Obj)} {σ : St} {H : Hp} {s : Shared} {Q : VK} {us : List Value} {vs : List V} {E : XK} (M : Mk X.K C f) (F : FnOk X.prog X.w X.K X.mg X.base (L2.CX X.prog X.w) k f fd ps sp) (hr : Room (k + 1) X.A) (hb : Binds X.K fd ps ds) (hd : Vals dvs ds)
    (hx : PassesAt (L2.CX X.prog X.w) X σ E) (I : Inv X pins σ H s) (r : Vals vs us)
    (h : ∀ x dx, H x = none → H dx = none → dx ≠ x → sp (.ref x :: (vs ++ dvs)) (upd (upd H dx (.own x)) x (.ins C dx [])) (fun v H2 => v = .non ∧ Q (.ref x) H2) E) :
    wpAny (model X.prog X.w) X.A (call (.ref C) us) (EP X pins σ Q) X.xe s := by
  have hq := h (s.heap.objs.size + 1) s.heap.objs.size (I.hok.fresh (Nat.le_succ _)) (I.hok.fresh (Nat.le_refl _)) (Nat.ne_of_lt (Nat.lt_succ_self _))
  have I2 := Inv.made (C := C) I
  have r2 : Vals (V.ref (s.heap.objs.size + 1) :: (vs ++ dvs)) (Value.ref (s.heap.objs.size + 1) :: (us ++ ds)) := .cons rfl (r.append hd)
  have hl : (Value.ref (s.heap.objs.size + 1) :: us ++ ds).length = ps.length := by
    have e := r2.length
    rw [F.len _ _ _ _ hq] at e
    exact e.symm
  refine wpAny_call (make_map (f := f) I.kIn M.makes M.init (beq_iff_eq.mp M.fn) (codeAny_mono (F.run _ X.stack _ _ ⟨Value.ref (s.heap.objs.size + 1) :: us, []⟩ (Value.ref (s.heap.objs.size + 1) :: (us ++ ds)) _ _ E (hr.make C us [])
    (I2.env0.make C us []) (hb _ (Value.ref (s.heap.objs.size + 1) :: us) I2.kIn hl) r2 hq) fun r s' hq' => ?_))
  cases r with
  | error e => exact hx pins _ _ e s' I2 hq'
  | ok fl =>
    cases fl with
    | ret u =>
      obtain ⟨v, H', I3, rv, ev, q3⟩ := I2.after hq'
      subst ev
      exact ⟨rv, ⟨V.ref (s.heap.objs.size + 1), H', I3, rfl, q3⟩⟩
    | next => exact False.elim hq'
    | brk => exact False.elim hq'
    | cont => exact False.elim hq'
theorem pe_makeG (M : Mk X.K C f) (F : FnOk X.prog X.w X.K X.mg X.base (L2.CX X.prog X.w) k f fd ps sp) (hr : Room (k + 1) X.A) (hg : Gl X x) (hm : X.mg x = some (.ref C)) (hb : Binds X.K fd ps ds) (hd : Vals dvs ds) (hx : ∀ σ, PassesAt (L2.CX X.prog X.w) X σ (E σ))
    (ha : PA X (e :: es) t) (hdb : (x == ("__debug__" : Str)) = false := by decide) (he : starEach (e :: es) X.env = (false, eval e X.env) :: starEach es X.env := by rfl) (hpl : (backTo pos (starEach es X.env)).any (·.1) = false := by rfl) :
    PE X (.Call (.Name x p) (e :: es) [] pos) (fun σ H Q => t σ H fun vs H1 => ∀ x dx, H1 x = none → H1 dx = none → dx ≠ x →
      sp (.ref x :: (vs ++ dvs)) (upd (upd H1 dx (.own x)) x (.ins C dx [])) (fun v H2 => v = .non ∧ Q (.ref x) H2) (E σ)) := by
  refine ⟨fun pins s σ H Q I h => ?_⟩
  refine wpAny_Call_Name_kw (ld_glob I hg hm ?_ hdb)
  refine PySem.W.callWith_K (h₀ := X.base) I.ok.mod.kin M.kp (thn (ha.run pos pins s σ H _ I h) fun us s1 ⟨vs, H1, I1, r, q⟩ => ⟨I1.kIn, ?_⟩) he hpl
  exact run_makeG M F hr hb hd (hx σ) I1 r q
end
/-! ### the facts of a text -/
/-- the def behind the name x does what φ says; dds: its defaults -/
structure FnC (P : Program) (w : World) (K : PySem.W.Frag) (mg : Str → Option Value) (base : Heap) (T : Tb) (k : Nat) (φ : Fn) (dds : List D) (f : Addr) : Prop where
  ex : ∃ fd ps dvs ds, FnOk P w K mg base (L2.CX P w) k f fd ps (sp T φ) ∧ Binds K fd ps ds ∧ Vals dvs ds ∧ Dfl T dvs dds
  kp : PySem.W.keepIn K (.ref f) = true
/-- a class of the text with instances: index c -/
structure ClsF (K : PySem.W.Frag) (T : Tb) (c : Nat) : Prop where
  cl : Cls K (T.cl c)
  nf : ∀ f ∈ T.fl c, NoAttr K (T.cl c) f
  nd : (T.fl c).Nodup
  few : (T.fl c).length < 900
theorem zip_lookup {α : Type} : ∀ {ks : List Str} {vs : List α} {i : Nat} {f : Str} {v : α}, ks.Nodup → ks[i]? = some f → vs[i]? = some v → (ks.zip vs).lookup f = some v
  | [], _, _, _, _, _, h, _ => by simp at h
  | _ :: _, [], _, _, _, _, _, h => by simp at h
  | k :: ks, w :: vs, 0, f, v, _, h1, h2 => by
    simp at h1 h2
    subst h1; subst h2
    simp [List.lookup]
  | k :: ks, w :: vs, i + 1, f, v, nd, h1, h2 => by
    have nd' := List.nodup_cons.mp nd
    have h1' : ks[i]? = some f := by simpa using h1
    have ne : (f == k) = false := by
      rw [beq_eq_false_iff_ne]
      intro z
      exact nd'.1 (by rw [← z]; exact List.mem_of_getElem? h1')
    show (match f == k with | true => some w | false => (ks.zip vs).lookup f) = some v
    rw [ne]
    exact zip_lookup nd'.2 h1' (by simpa using h2)
theorem zip_none {α : Type} : ∀ {ks : List Str} {vs : List α} {f : Str}, f ∉ ks → (ks.zip vs).lookup f = none
  | [], _, _, _ => by simp
  | _ :: _, [], _, _ => by simp
  | k :: ks, w :: vs, f, h => by
    rw [List.mem_cons, not_or] at h
    show (match f == k with | true => some w | false => (ks.zip vs).lookup f) = none
    rw [beq_eq_false_iff_ne.mpr h.1]
    exact zip_none h.2
theorem putF_zip : ∀ {ks : List Str} {vs : List V} {f : Str} {v : V}, ks.Nodup → ks[vs.length]? = some f → putF f v (ks.zip vs) = ks.zip (vs ++ [v])
  | [], vs, f, v, _, h => by simp at h
  | k :: ks, [], f, v, _, h => by
    simp at h
    subst h
    cases ks <;> rfl
  | k :: ks, w :: vs, f, v, nd, h => by
    have nd' := List.nodup_cons.mp nd
    have h' : ks[vs.length]? = some f := by simpa using h
    have ne : ¬ k = f := fun z => nd'.1 (by rw [z]; exact List.mem_of_getElem? h')
    show (if k = f then (k, v) :: ks.zip vs else (k, w) :: putF f v (ks.zip vs)) = _
    rw [if_neg ne, putF_zip nd'.2 h']
    rfl
section
variable {X : Cx} {T : Tb} {W : WX} {a b c e : Expr} {es : List Expr} {f g : Env' → R} {fa : Env' → RA} {pos p apos : Pos} {k : Nat} {φ : Fn} {dds : List D} {x m : Str} {fx : Addr}
/-- f(..) -/
def cCall (φ : Fn) (dds : List D) (fa : Env' → RA) : Env' → R := fun env => (fa env).bind fun as e => callR φ dds as e
theorem se_call (F : FnC X.prog X.w X.K X.mg X.base T k φ dds fx) (hm : X.mg x = some (.ref fx)) (hr : Room k X.A) (tk : Takes X W) (ha : SA X T W (e :: es) fa) (hg : Gl X x := by rfl) (hdb : (x == ("__debug__" : Str)) = false := by decide)
    (he : starEach (e :: es) X.env = (false, eval e X.env) :: starEach es X.env := by rfl) (hpl : (backTo pos (starEach es X.env)).any (·.1) = false := by rfl) : SE X T W (.Call (.Name x p) (e :: es) [] pos) (cCall φ dds fa) := by
  obtain ⟨fd, ps, dvs, ds, F1, hb, hd, dfl⟩ := F.ex
  refine PE.weak (pe_callG F1 hr hg hm F.kp hb hd (fun σ => passAt tk σ) ha hdb he hpl) fun σ H Q ⟨G, B, Z, env, E, q⟩ => ?_
  exact useAR E q fun vs H1 Z1 e as s E1 r q1 => call_sp dfl E1 r q1
theorem se_call0 (F : FnC X.prog X.w X.K X.mg X.base T k φ dds fx) (hm : X.mg x = some (.ref fx)) (hr : Room k X.A) (tk : Takes X W) (hg : Gl X x := by rfl) (hdb : (x == ("__debug__" : Str)) = false := by decide) : SE X T W (.Call (.Name x p) [] [] pos) (cCall φ dds cA0) := by
  obtain ⟨fd, ps, dvs, ds, F1, hb, hd, dfl⟩ := F.ex
  refine PE.weak (pe_callG0 F1 hr hg hm F.kp hb hd (fun σ => passAt tk σ) hdb) fun σ H Q ⟨G, B, Z, env, E, q⟩ => ?_
  exact call_sp (vs := []) (avs := []) dfl E True.intro q
/-- o.m(..), o of the class c -/
def cMeth (c : Nat) (φ : Fn) (dds : List D) (f : Env' → R) (fa : Env' → RA) : Env' → R := fun env => (f env).bind fun d e => match d with
  | .obj c' xs => if c' = c then (fa e).bind fun as e' => callR φ dds (.d (.obj c' xs) :: as) e' else .no
  | _ => .no
theorem meth_go {c : Nat} {m : Str} {t : TA} {dvs : List V} (CF : ClsF X.K T c) (hK : X.K = T.K) (hm : m ∉ T.fl c) (dfl : Dfl T dvs dds)
    (ht : ∀ {G B Z env σ H Q} {k : List AV → Env' → R} {P : List V → Hp → Prop}, EOk T G B Z H σ env → PR T W G B Z σ Q ((fa env).bind k) → (∀ vs H1 Z1 e as, Same Z Z1 → EOk T G B Z1 H1 σ e → AVOk T Z1 σ vs as → PR T W G B Z1 σ Q (k as e) → P vs H1) → t σ H P) (σ : St) (H : Hp) (Q : VK)
    (q : tX T W (cMeth c φ dds f fa) σ H Q) : tX T W f σ H fun x H1 => ∃ a dx fs, x = .ref a ∧ H1 a = some (.ins (T.cl c) dx fs) ∧ fs.lookup m = none ∧ t σ H1 fun vs H2 => sp T φ (x :: (vs ++ dvs)) H2 Q (WE W σ) := by
  obtain ⟨G, B, Z, env, E, q⟩ := q
  refine useR E q fun v H1 Z1 e d s E1 r q1 => ?_
  cases r with
  | @obj a dx vs c' ds h n rs =>
    dsimp only at q1
    by_cases hc : c' = c
    · subst hc
      rw [if_pos rfl] at q1
      refine ⟨a, dx, _, rfl, E1.sub _ _ h, zip_none hm, ht E1 q1 fun ws H2 Z2 e2 as s2 E2 r2 q2 => ?_⟩
      exact call_sp (vs := .ref a :: ws) (avs := .d (.obj c' ds) :: as) dfl E2 ⟨.obj (s2 _ _ h) n (rs.mono s2), r2⟩ q2
    · rw [if_neg hc] at q1; exact q1.elim
  | _ => exact q1.elim
theorem se_meth {c : Nat} (CF : ClsF X.K T c) (hK : X.K = T.K) (hm : m ∉ T.fl c) (hM : Meth X.K (T.cl c) m fx) (F : FnC X.prog X.w X.K X.mg X.base T k φ dds fx) (hr : Room k X.A) (tk : Takes X W) (ho : SE X T W a f) (ha : SA X T W (e :: es) fa)
    {pl : Sem Bool} (hst : starEach (e :: es) X.env = (false, eval e X.env) :: starEach es X.env := by rfl) (hpl : (backTo pos (starEach es X.env)).any (·.1) = false := by rfl)
    (ht : eval (.Call (.Attribute a m apos) (e :: es) [] pos) X.env = (do
      let ov ← eval a X.env
      standAt apos.atName
      let (f, first) ← holding [ov] (getMethod ov m pl)
      callWith pos f first (backTo pos (starEach (e :: es) X.env)) (backToKw pos (keywordEach [] X.env))) := by rfl) : SE X T W (.Call (.Attribute a m apos) (e :: es) [] pos) (cMeth c φ dds f fa) := by
  obtain ⟨fd, ps, dvs, ds, F1, hb, hd, dfl⟩ := F.ex
  exact PE.weak (pe_methG ho CF.cl hM F1 hr hb hd (fun σ => passAt tk σ) ha hst hpl ht) (meth_go CF hK hm dfl fun E q go => useAR E q go)
theorem se_meth0 {c : Nat} (CF : ClsF X.K T c) (hK : X.K = T.K) (hm : m ∉ T.fl c) (hM : Meth X.K (T.cl c) m fx) (F : FnC X.prog X.w X.K X.mg X.base T k φ dds fx) (hr : Room k X.A) (tk : Takes X W) (ho : SE X T W a f)
    {pl : Sem Bool} (ht : eval (.Call (.Attribute a m apos) [] [] pos) X.env = (do
      let ov ← eval a X.env
      standAt apos.atName
      let (f, first) ← holding [ov] (getMethod ov m pl)
      callWith pos f first (backTo pos (starEach [] X.env)) (backToKw pos (keywordEach [] X.env))) := by rfl) : SE X T W (.Call (.Attribute a m apos) [] [] pos) (cMeth c φ dds f cA0) := by
  obtain ⟨fd, ps, dvs, ds, F1, hb, hd, dfl⟩ := F.ex
  refine PE.weak (pe_methG0 ho CF.cl hM F1 hr hb hd (fun σ => passAt tk σ) ht) fun σ H Q q => ?_
  exact meth_go (t := fun σ H P => P [] H) (fa := cA0) CF hK hm dfl (fun E q go => go [] _ _ _ [] (Same.refl _) E True.intro q) σ H Q q

/-- C(..) -/
def makeR (c nf : Nat) (φ : Fn) (dds : List D) (avs : List AV) (e : Env') : R := match avD avs with
  | some ds => (match φ (.own true (.s c []) :: (ds.map .val ++ dds.map .val)) with
    | .ok (.d .non) outs => (match outs.lookup 0 with | some (.s c' xs) => if c' = c ∧ xs.length = nf then .ok (.d (.obj c xs)) e else .no | _ => .no)
    | .ok _ _ => .no
    | .ex x _ => .ex x e
    | .no => .no)
  | none => .no
def cMake (c nf : Nat) (φ : Fn) (dds : List D) (fa : Env' → RA) : Env' → R := fun env => (fa env).bind fun as e => makeR c nf φ dds as e
theorem make_sp {c nf : Nat} {G : Gd} {B : List (Nat × Addr)} {Z H : Hp} {σ : St} {e : Env'} {vs : List V} {avs : List AV} {dvs : List V} {Q : VK} (hl : (T.fl c).length = nf) (dfl : Dfl T dvs dds) (E : EOk T G B Z H σ e) (r : AVOk T Z σ vs avs) (h : PR T W G B Z σ Q (makeR c nf φ dds avs e))
    (x dx : Addr) (hx : H x = none) (hdx : H dx = none) (hne : dx ≠ x) : sp T φ (.ref x :: (vs ++ dvs)) (upd (upd H dx (.own x)) x (.ins (T.cl c) dx [])) (fun v H2 => v = .non ∧ Q (.ref x) H2) (WE W σ) := by
  unfold makeR at h
  cases hd : avD avs with
  | none => rw [hd] at h; exact h.elim
  | some ds =>
    rw [hd] at h
    dsimp only at h
    have rs := (r.reps hd).append (dfl Z)
    have hx' : upd H dx (.own x) x = none := by rw [upd_ne (fun z => hne z.symm)]; exact hx
    have Ea := (E.new hdx).new hx' (o := .ins (T.cl c) dx [])
    have el : ∀ (j : Nat) (w : SV), (ds.map SV.val ++ dds.map SV.val)[j]? = some w → ∃ d, (ds ++ dds)[j]? = some d ∧ w = .val d := fun j w q => by
      rw [← List.map_append, List.getElem?_map] at q
      cases z : (ds ++ dds)[j]? with
      | none => rw [z] at q; cases q
      | some d => rw [z] at q; cases q; exact ⟨d, rfl, rfl⟩
    have mb : ∀ i a, (i, a) ∈ lentA (V.ref x :: (vs ++ dvs)) (SV.own true (.s c []) :: (ds.map SV.val ++ dds.map SV.val)) → i = 0 ∧ a = x := fun i a q => by
      obtain ⟨⟨b, o, q1⟩, q2⟩ := mem_lentA.mp q
      cases i with
      | zero => simp at q2; exact ⟨rfl, q2.symm⟩
      | succ i =>
        obtain ⟨d, _, z⟩ := el i _ (by simpa using q1)
        cases z
    have A : ArgsOk T Z (upd (upd H dx (.own x)) x (.ins (T.cl c) dx [])) (V.ref x :: (vs ++ dvs)) (SV.own true (.s c []) :: (ds.map SV.val ++ dds.map SV.val)) := by
      refine ⟨?_, fun i d q => ?_, fun i b o q => ?_, fun i j a n q1 q2 => n ((mb i a q1).1.trans (mb j a q2).1.symm)⟩
      · have := rs.length
        rw [List.length_cons, List.length_cons, this, List.length_append, List.length_append, List.length_map, List.length_map]
      · cases i with
        | zero => simp at q
        | succ i =>
          obtain ⟨d', h1, z⟩ := el i _ (by simpa using q)
          cases z
          obtain ⟨v, k1, k2⟩ := rs.get h1
          exact ⟨v, by simpa using k1, k2⟩
      · cases i with
        | zero =>
          simp at q
          obtain ⟨rfl, rfl⟩ := q
          exact ⟨rfl, x, _, by simp, upd_same, ⟨dx, [], by simp, Nat.zero_le _, .nil⟩, E.znone hx⟩
        | succ i =>
          obtain ⟨d', h1, z⟩ := el i _ (by simpa using q)
          cases z
    refine ⟨Z, _, Ea.sub, A, ?_⟩
    have old : ∀ {H' Z' : Hp} {outs : List (Nat × OB)}, After T Z (upd (upd H dx (.own x)) x (.ins (T.cl c) dx [])) Z' H' (V.ref x :: (vs ++ dvs)) (SV.own true (.s c []) :: (ds.map SV.val ++ dds.map SV.val)) outs → EOk T G B Z' H' σ e := fun {H' Z' outs} Af => by
      have keepH : ∀ a o, H a = some o → H' a = some o := fun a o q => Af.keep a o (by rw [upd_ne (ne_of_none q hx), upd_ne (ne_of_none q hdx)]; exact q) fun i hi => by
        have := (mb i a hi).2
        rw [this, hx] at q
        cases q
      have nofH : ∀ a, H a ≠ none → Z a = none → Z' a = none := fun a h1 h2 => by
        cases q : H a with
        | none => exact (h1 q).elim
        | some o => exact Af.nof a (by rw [upd_ne (ne_of_none q hx), upd_ne (ne_of_none q hdx), q]; exact fun z => nomatch z) h2
      refine ⟨E.len, Af.sub, fun a h1 h2 => nofH a (fun z => h1 (E.gnone z)) (E.nof a h1 h2), fun a o q n => keepH a o (E.keep a o q n), fun i d q => ?_, fun i b o q => ?_, E.bor, E.dis⟩
      · obtain ⟨v, q1, q2⟩ := E.val i d q
        exact ⟨v, q1, q2.mono Af.zz⟩
      · obtain ⟨a, h', q1, q2, q3, q4, q5⟩ := E.own i b o q
        exact ⟨a, h', q1, keepH a h' q2, q3.mono Af.zz, nofH a (by rw [q2]; exact fun z => nomatch z) q4, q5⟩
    cases hφ : φ (.own true (.s c []) :: (ds.map .val ++ dds.map .val)) with
    | no => rw [hφ] at h; exact h.elim
    | ex y outs =>
      rw [hφ] at h
      intro cl d H' Z' Af rr
      exact h cl d H' Z' Af.zz (old Af) rr
    | ok r outs =>
      rw [hφ] at h
      cases r with
      | o o => exact h.elim
      | d d =>
        cases d with
        | non =>
          dsimp only at h
          intro v H' Z' Af rr
          cases rr
          obtain ⟨o, hh, k1, k2, k3, k4⟩ := Af.outs 0 x (mem_lentA.mpr ⟨⟨_, _, rfl⟩, rfl⟩)
          rw [k1] at h
          cases o with
          | l xs => exact h.elim
          | s c' xs =>
            dsimp only at h
            by_cases hc : c' = c ∧ xs.length = nf
            · rw [if_pos hc] at h
              obtain ⟨rfl, hn⟩ := hc
              obtain ⟨dx', ws, e1, e2, e3⟩ := k3
              subst e1
              have E' := old Af
              have nx : ∀ i, ¬ Own σ e i x := E.nown hx
              refine ⟨rfl, h _ H' (upd Z' x (.ins (T.cl c') dx' ((T.fl c').zip ws))) (Af.zz.trans (same_upd k4)) (E'.fix k2 nx k4 (E.gnone hx)) ?_⟩
              exact .obj upd_same (by rw [e3.length, hn, hl]) (e3.mono (same_upd k4))
            · rw [if_neg hc] at h; exact h.elim
        | _ => exact h.elim
theorem se_make {c nf : Nat} (hl : (T.fl c).length = nf) (M : Mk X.K (T.cl c) fx) (F : FnC X.prog X.w X.K X.mg X.base T k φ dds fx) (hm : X.mg x = some (.ref (T.cl c))) (hr : Room (k + 1) X.A) (tk : Takes X W) (ha : SA X T W (e :: es) fa) (hg : Gl X x := by rfl) (hdb : (x == ("__debug__" : Str)) = false := by decide)
    (he : starEach (e :: es) X.env = (false, eval e X.env) :: starEach es X.env := by rfl) (hpl : (backTo pos (starEach es X.env)).any (·.1) = false := by rfl) : SE X T W (.Call (.Name x p) (e :: es) [] pos) (cMake c nf φ dds fa) := by
  obtain ⟨fd, ps, dvs, ds, F1, hb, hd, dfl⟩ := F.ex
  refine PE.weak (pe_makeG M F1 hr hg hm hb hd (fun σ => passAt tk σ) ha hdb he hpl) fun σ H Q ⟨G, B, Z, env, E, q⟩ => ?_
  exact useAR E q fun vs H1 Z1 e as s E1 r q1 x dx h1 h2 h3 => make_sp hl dfl E1 r q1 x dx h1 h2 h3

/-! ### fields -/
/-- e.f; where f stands in each class -/
def cFld (al : List (Nat × Nat)) (f : Env' → R) : Env' → R := fun env => (f env).bind fun d e => match d with
  | .obj c xs => (match al.lookup c with | some k => (match xs[k]? with | some y => .ok (.d y) e | none => .no) | none => .no)
  | _ => .no
def FldF (K : PySem.W.Frag) (T : Tb) (al : List (Nat × Nat)) (n : Str) : Prop := ∀ c k, al.lookup c = some k → ClsF K T c ∧ (T.fl c)[k]? = some n
theorem fldF_0 {K : PySem.W.Frag} {n : Str} : FldF K T [] n := fun c k h => by simp at h
theorem fldF_c {K : PySem.W.Frag} {al : List (Nat × Nat)} {n : Str} {c k : Nat} (CF : ClsF K T c) (r : FldF K T al n) (h : (T.fl c)[k]? = some n := by rfl) : FldF K T ((c, k) :: al) n := fun c' k' q => by
  rw [List.lookup_cons] at q
  cases z : c' == c with
  | true =>
    rw [z] at q
    cases q
    have := eq_of_beq z
    subst this
    exact ⟨CF, h⟩
  | false => rw [z] at q; exact r c' k' q
theorem se_fld {al : List (Nat × Nat)} {n : Str} (FF : FldF X.K T al n) (ha : SE X T W a f) (hb : attributeBase a n X.env (eval a X.env) = eval a X.env := by rfl) : SE X T W (.Attribute a n pos) (cFld al f) := by
  refine PE.weak (pe_fld ha hb) fun σ H Q ⟨G, B, Z, env, E, q⟩ => ?_
  refine useR E q fun v H1 Z1 e d s E1 r q1 => ?_
  cases r with
  | @obj p dx vs c ds h hn rs =>
    dsimp only at q1
    cases hk : al.lookup c with
    | none => rw [hk] at q1; exact q1.elim
    | some k =>
      rw [hk] at q1
      dsimp only at q1
      cases hy : ds[k]? with
      | none => rw [hy] at q1; exact q1.elim
      | some y =>
        rw [hy] at q1
        obtain ⟨CF, hf⟩ := FF c k hk
        obtain ⟨w, k1, k2⟩ := rs.get hy
        exact ⟨p, _, dx, _, w, rfl, E1.sub _ _ h, CF.cl, CF.nf n (List.mem_of_getElem? hf), zip_lookup CF.nd hf k1, q1 w H1 Z1 (Same.refl _) E1 k2⟩
  | _ => exact q1.elim
/-- self.f within __init__ -/
def cSfld (i c k : Nat) : Env' → R := fun e => match e[i]? with | some (.own true (.s c' xs)) => if c' = c then (match xs[k]? with | some y => .ok (.d y) e | none => .no) else .no | _ => .no
theorem se_sfld (i : Nat) {c k : Nat} {x n : Str} {p1 p2 : Pos} (CF : ClsF X.K T c) (hn : (T.fl c)[k]? = some n := by rfl) (hN : X.N[i]? = some x := by rfl) (hv : Vis X.env.scope x := by first | exact Or.inl rfl | exact Or.inr (Or.inl rfl) | exact Or.inr (Or.inr rfl)) (hd : (x == ("__debug__" : Str)) = false := by decide)
    (hcd : (x == ("__classdict__" : Str)) = false := by decide) (hb : attributeBase (.Name x p1) n X.env (eval (.Name x p1) X.env) = eval (.Name x p1) X.env := by rfl) : SE X T W (.Attribute (.Name x p1) n p2) (cSfld i c k) := by
  refine PE.weak (pe_fld (pe_var hN hv hd hcd) hb) fun σ H Q ⟨G, B, Z, env, E, q⟩ => ?_
  unfold cSfld at q
  split at q
  · rename_i c' xs h
    by_cases hc : c' = c
    · rw [if_pos hc] at q
      subst hc
      cases hy : xs[k]? with
      | none => rw [hy] at q; exact q.elim
      | some y =>
        rw [hy] at q
        obtain ⟨pa, ho, h1, h2, ⟨dx, vs, rfl, h4, h5⟩, h6, h7⟩ := E.own i true _ h
        obtain ⟨w, k1, k2⟩ := h5.get hy
        exact ⟨_, h1, pa, _, dx, _, w, rfl, h2, CF.cl, CF.nf n (List.mem_of_getElem? hn), zip_lookup CF.nd hn k1, q w H Z (Same.refl _) E k2⟩
    · rw [if_neg hc] at q; exact q.elim
  · exact q.elim
/-- self.f = e within __init__: the fields in their order -/
def sFld0 (i c k : Nat) (f : Env' → R) : Env' → RS := fun env => (f env).bindS fun d e => match e[i]? with
  | some (.own true (.s c' xs)) => if c' = c ∧ xs.length = k then .nx (e.set i (.own true (.s c (xs ++ [d])))) else .no
  | _ => .no
theorem EOk.mut {G : Gd} {B : List (Nat × Addr)} {Z H : Hp} {σ : St} {env : Env'} {i : Nat} {b : Bool} {o o' : OB} {pa : Addr} {h' : HO} (E : EOk T G B Z H σ env) (h : env[i]? = some (.own b o)) (hσ : σ[i]? = some (some (.ref pa))) (r : ORep T Z h' o') :
    EOk T G B Z (upd H pa h') σ (env.set i (.own b o')) := by
  have hi : i < env.length := (List.getElem?_eq_some_iff.mp h).1
  obtain ⟨a, ho, e1, e2, e3, e4, e5⟩ := E.own i b o h
  rw [hσ] at e1
  cases e1
  have own_ : ∀ j q, Own σ (env.set i (.own b o')) j q → Own σ env j q := fun j q ⟨⟨b1, o1, q1⟩, q2⟩ => by
    by_cases hj : i = j
    · subst hj; exact ⟨⟨b, o, h⟩, q2⟩
    · rw [List.getElem?_set_ne hj] at q1; exact ⟨⟨b1, o1, q1⟩, q2⟩
  refine ⟨by rw [List.length_set]; exact E.len, fun q u hq => ?_, E.nof, fun q u hq n => ?_, fun j d q => ?_, fun j b1 o1 q => ?_, fun j q hq => ?_, fun j l q n o1 o2 => E.dis j l q n (own_ j q o1) (own_ l q o2)⟩
  · rw [upd_ne (ne_of_none hq e4)]; exact E.sub q u hq
  · rw [upd_ne fun z => ?_]
    · exact E.keep q u hq n
    · subst z
      rcases e5 with ⟨_, z⟩ | ⟨_, z⟩
      · exact n i z
      · rw [hq] at z; cases z
  · by_cases hj : i = j
    · subst hj; rw [List.getElem?_set_self hi] at q; cases q
    · rw [List.getElem?_set_ne hj] at q; exact E.val j d q
  · by_cases hj : i = j
    · subst hj
      rw [List.getElem?_set_self hi] at q
      cases q
      exact ⟨pa, h', hσ, upd_same, r, e4, e5⟩
    · rw [List.getElem?_set_ne hj] at q
      obtain ⟨a1, h1, k1, k2, k3⟩ := E.own j b1 o1 q
      refine ⟨a1, h1, k1, ?_, k3⟩
      rw [upd_ne fun z => E.dis i j pa hj ⟨⟨_, _, h⟩, hσ⟩ ⟨⟨_, _, q⟩, by rw [← z]; exact k1⟩]
      exact k2
  · obtain ⟨⟨o1, q1⟩, q2⟩ := E.bor j q hq
    by_cases hj : i = j
    · subst hj
      rw [h] at q1
      cases q1
      exact ⟨⟨o', List.getElem?_set_self hi⟩, q2⟩
    · exact ⟨⟨o1, by rw [List.getElem?_set_ne hj]; exact q1⟩, q2⟩
theorem ss_fld0 (i : Nat) {c k : Nat} {x n : Str} {p1 p2 : Pos} (CF : ClsF X.K T c) (he : SE X T W e f) (hn : (T.fl c)[k]? = some n := by rfl) (hN : X.N[i]? = some x := by rfl) (hv : Vis X.env.scope x := by first | exact Or.inl rfl | exact Or.inr (Or.inl rfl) | exact Or.inr (Or.inr rfl)) (hd : (x == ("__debug__" : Str)) = false := by decide)
    (hcd : (x == ("__classdict__" : Str)) = false := by decide) (hs : swapsWith e (some (.Attribute (.Name x p1) n p2)) pos.line X.env = pure false := by rfl) : SS X T W (.Assign [.Attribute (.Name x p1) n p2] e pos) (sFld0 i c k f) := by
  refine PS.weak (ps_fld (pe_var hN hv hd hcd) he hs) fun K σ H ⟨G, B, Z, env, E, q⟩ => ?_
  refine useS E q fun v H1 Z1 e1 d s E1 r q1 => ?_
  cases h : e1[i]? with
  | none => rw [h] at q1; exact q1.elim
  | some w =>
    rw [h] at q1
    cases w with
    | un => exact q1.elim
    | val d => exact q1.elim
    | own b o =>
      cases b with
      | false => exact q1.elim
      | true =>
        cases o with
        | l xs => exact q1.elim
        | s c' xs =>
          dsimp only at q1
          by_cases hc : c' = c ∧ xs.length = k
          · rw [if_pos hc] at q1
            obtain ⟨rfl, hk⟩ := hc
            obtain ⟨pa, ho, h1, h2, ⟨dx, vs, rfl, h4, h5⟩, h6, h7⟩ := E1.own i true _ h
            have hvl : vs.length = k := by rw [h5.length]; exact hk
            have hlt : vs.length < (T.fl c').length := by rw [hvl]; exact (List.getElem?_eq_some_iff.mp hn).1
            have hput : putF n v ((T.fl c').zip vs) = (T.fl c').zip (vs ++ [v]) := putF_zip CF.nd (by rw [hvl]; exact hn)
            refine ⟨_, h1, pa, _, dx, _, rfl, h2, CF.cl, CF.nf n (List.mem_of_getElem? hn), ?_, ?_⟩
            · rw [List.length_zip]
              have := CF.few
              omega
            · rw [hput]
              exact q1 σ _ Z1 (Same.refl _) (E1.mut h h1 ⟨dx, vs ++ [v], rfl, by rw [List.length_append, List.length_singleton]; omega, h5.append (.cons r .nil)⟩)
          · rw [if_neg hc] at q1; exact q1.elim
end
end L2.S

set_option Elab.async false
set_option linter.all false
set_option maxRecDepth 100000
set_option maxHeartbeats 4000000
namespace L2.S
open PySem PySem.Spec PyProof.Rows TL
section
variable {X : Cx} {T : Tb} {W : WX} {a b c e : Expr} {es : List Expr} {f g : Env' → R} {fa : Env' → RA} {pos p apos : Pos}
/-! ### a[i] -/
def ixD : D → D → Option D
  | .tup xs, .int i => atI xs i
  | .lst xs, .int i => atI xs i
  | .ro xs, .int i => atI xs i
  | .str l, .int i => if l.length ≤ 16777216 then (atI l i).map fun c => .str [c] else none
  | _, _ => none
theorem reps_at {Z : Hp} {vs : List V} {ds : List D} {i : Int} {d : D} (r : Reps T Z vs ds) (h : atI ds i = some d) : ∃ v, atI vs i = some v ∧ Rep T Z v d := by
  unfold atI at h ⊢
  rw [r.length]
  cases q : ixN ds.length i with
  | none => rw [q] at h; cases h
  | some j =>
    rw [q] at h
    obtain ⟨v, h1, h2⟩ := r.get h
    exact ⟨v, h1, h2⟩
theorem ix_go (hT : X.K = T.K) {Z H : Hp} {x y : V} {dx dy d : D} {Q : VK} (s : Same Z H) (r1 : Rep T Z x dx) (r2 : Rep T Z y dy) (h : ixD dx dy = some d) (k : ∀ v, Rep T Z v d → Q v H) : rIx X.K x y H Q := by
  cases r2 with
  | int i =>
    cases r1 with
    | tup hq rs =>
      obtain ⟨v, h1, h2⟩ := reps_at rs h
      exact .inr (.inl ⟨_, _, i, v, rfl, rfl, by rw [hT]; exact sqt_mono s hq, h1, k v h2⟩)
    | lst hq rs =>
      obtain ⟨v, h1, h2⟩ := reps_at rs h
      exact .inl ⟨_, _, i, v, rfl, rfl, SqL.of (s _ _ hq), h1, k v h2⟩
    | ro hq rs =>
      obtain ⟨v, h1, h2⟩ := reps_at rs h
      exact .inl ⟨_, _, i, v, rfl, rfl, by rw [hT]; exact s.seq hq, h1, k v h2⟩
    | str l =>
      have h' : (if l.length ≤ 16777216 then (atI l i).map fun c => D.str [c] else none) = some d := h
      split at h'
      · rename_i hl
        cases q : atI l i with
        | none => rw [q] at h'; cases h'
        | some c =>
          rw [q] at h'
          cases h'
          exact .inr (.inr ⟨_, i, c, rfl, rfl, by rw [SZ_eq]; exact hl, q, k _ (.str [c])⟩)
      · cases h'
    | _ => cases h
  | _ => cases r1 <;> cases h
def cIx (f g : Env' → R) : Env' → R := two (fun x y e => match ixD x y with | some d => .ok (.d d) e | none => .no) f g
theorem se_ix (hT : X.K = T.K) (ha : SE X T W a f) (hb : SE X T W b g) (hs : PlainIx b := by exact fun _ _ => rfl) : SE X T W (.Subscript a b pos) (cIx f g) := by
  refine PE.weak (pe_ix ix_seq ha hb hs) fun σ H Q q => ?_
  have q' := two_tX q
  obtain ⟨G, B, Z, env, E, q2⟩ := q
  refine useR E q2 fun x H1 Z1 e1 dx s1 E1 r1 q3 => useR E1 q3 fun y H2 Z2 e2 dy s2 E2 r2 q4 => ?_
  dsimp only at q4
  cases h : ixD dx dy with
  | none => rw [h] at q4; exact q4.elim
  | some d =>
    rw [h] at q4
    exact ix_go hT E2.sub (r1.mono s2) r2 h fun v r => q4 v H2 Z2 (Same.refl _) E2 r
/-- a part of the list that slot i owns, then k with it as it is then -/
def withO (i : Nat) (env : Env') (r : R) : R := match env[i]? with | some (.own _ (.l _)) => r | _ => .no
theorem use_own {G : Gd} {B : List (Nat × Addr)} {Z H : Hp} {σ : St} {env : Env'} {i : Nat} {r : R} {Q : VK} (E : EOk T G B Z H σ env) (q : PR T W G B Z σ Q (withO i env r)) :
    ∃ pa b xs vs, env[i]? = some (.own b (.l xs)) ∧ σ[i]? = some (some (.ref pa)) ∧ H pa = some (.lst vs) ∧ Reps T Z vs xs ∧ PR T W G B Z σ Q r := by
  unfold withO at q
  split at q
  · rename_i b xs h
    obtain ⟨pa, ho, h1, h2, ⟨vs, rfl, h4⟩, _⟩ := E.own i b _ h
    exact ⟨pa, b, xs, vs, h, h1, h2, h4, q⟩
  · exact q.elim
/-- an item of the list that slot i owns -/
def cIxO (i : Nat) (g : Env' → R) : Env' → R := fun env => withO i env ((g env).bind fun d e => match e[i]?, d with
  | some (.own _ (.l xs)), .int j => (match atI xs j with | some y => .ok (.d y) e | none => .no)
  | _, _ => .no)
theorem se_ixO (i : Nat) {x : Str} {p1 : Pos} (hb : SE X T W b g) (hN : X.N[i]? = some x := by rfl) (hv : Vis X.env.scope x := by first | exact Or.inl rfl | exact Or.inr (Or.inl rfl) | exact Or.inr (Or.inr rfl)) (hd : (x == ("__debug__" : Str)) = false := by decide)
    (hcd : (x == ("__classdict__" : Str)) = false := by decide) (hs : PlainIx b := by exact fun _ _ => rfl) : SE X T W (.Subscript (.Name x p1) b pos) (cIxO i g) := by
  refine PE.weak (pe_ix ix_list (pe_var hN hv hd hcd) hb hs) fun σ H Q ⟨G, B, Z, env, E, q⟩ => ?_
  obtain ⟨pa, b, xs, vs, h, h1, h2, h4, q⟩ := use_own E q
  refine ⟨_, h1, useR E q fun y H1 Z1 e1 dy s1 E1 r1 q1 => ?_⟩
  split at q1
  · rename_i _ _ b xs j h
    cases r1
    obtain ⟨pa', ho, k1, k2, ⟨vs, rfl, k4⟩, _⟩ := E1.own i b _ h
    rw [h1] at k1
    cases k1
    cases hy : atI xs j with
    | none => rw [hy] at q1; exact q1.elim
    | some y =>
      rw [hy] at q1
      obtain ⟨w, j1, j2⟩ := reps_at k4 hy
      exact ⟨_, _, _, w, rfl, rfl, SqL.of k2, j1, q1 w H1 Z1 (Same.refl _) E1 j2⟩
  · exact q1.elim

/-! ### slices -/
inductive RO where
  | ok (o : Option Int) (e : Env') | ex (x : Ex) (e : Env') | no
def PRO (T : Tb) (W : WX) (G : Gd) (B : List (Nat × Addr)) (Z : Hp) (σ : St) (Q : Option Int → Hp → Prop) : RO → Prop
  | .ok o e => ∀ H' Z', Same Z Z' → EOk T G B Z' H' σ e → Q o H'
  | .ex x e => ∀ cls d H' Z', Same Z Z' → EOk T G B Z' H' σ e → XRep T Z' H' cls d x → W cls d σ H'
  | .no => False
def tXO (T : Tb) (W : WX) (f : Env' → RO) : TO := fun σ H Q => ∃ G B Z env, EOk T G B Z H σ env ∧ PRO T W G B Z σ Q (f env)
def SO (X : Cx) (T : Tb) (W : WX) (e : Option Expr) (f : Env' → RO) : Prop := PO X e (tXO T W f)
theorem PO.weak {e : Option Expr} {t t' : TO} (h : PO X e t) (w : ∀ σ H Q, t' σ H Q → t σ H Q) : PO X e t' := ⟨fun pins s σ H Q I q => h.run pins s σ H Q I (w _ _ _ q)⟩
def o0 : Env' → RO := fun e => .ok none e
def oI (f : Env' → R) : Env' → RO := fun env => match f env with
  | .ok (.d (.int i)) e => .ok (some i) e
  | .ex x e => .ex x e
  | _ => .no
theorem so_0 : SO X T W none o0 := PO.weak po_none fun σ H Q ⟨G, B, Z, env, E, q⟩ => q H Z (Same.refl _) E
theorem so_i (h : SE X T W a f) : SO X T W (some a) (oI f) := by
  refine PO.weak (po_some h) fun σ H Q ⟨G, B, Z, env, E, q⟩ => ?_
  refine use (Same.refl _) E (fun r e hf v H' Z' s E' r' => ?_) (fun x e hf => ?_) (fun hf => ?_)
  · unfold oI at q
    rw [hf] at q
    cases r with
    | o o => exact q.elim
    | d d =>
      cases d with
      | int i => cases r'; exact ⟨i, rfl, q H' Z' s E'⟩
      | _ => exact q.elim
  · unfold oI at q
    rw [hf] at q
    exact q
  · unfold oI at q
    rw [hf] at q
    exact q.elim
def RO.bind (r : RO) (k : Option Int → Env' → R) : R := match r with
  | .ok o e => k o e
  | .ex x e => .ex x e
  | .no => .no
theorem useO {fo : Env' → RO} {G : Gd} {B : List (Nat × Addr)} {Z H : Hp} {σ : St} {env : Env'} {P : Option Int → Hp → Prop} {Q : VK} {k : Option Int → Env' → R} (E : EOk T G B Z H σ env) (h : PR T W G B Z σ Q ((fo env).bind k))
    (go : ∀ o H1 Z1 e, Same Z Z1 → EOk T G B Z1 H1 σ e → PR T W G B Z1 σ Q (k o e) → P o H1) : tXO T W fo σ H P := by
  refine ⟨G, B, Z, env, E, ?_⟩
  cases q : fo env with
  | ok o e =>
    rw [q] at h
    exact fun H' Z' s E' => go o H' Z' e s E' (PR.mono s (r := k o e) h)
  | ex x e => rw [q] at h; exact h
  | no => rw [q] at h; exact h.elim
def cut {α : Type} (xs : List α) (lo hi : Option Int) : List α := (xs.drop (HT.sIx xs.length 0 lo)).take (HT.sIx xs.length xs.length hi - HT.sIx xs.length 0 lo)
def slD : D → Option Int → Option Int → Option RV
  | .tup xs, lo, hi => if HT.sIx xs.length 0 lo = 0 ∧ HT.sIx xs.length xs.length hi = xs.length then none else some (.d (.tup (cut xs lo hi)))
  | .lst xs, lo, hi => some (.o (.l (cut xs lo hi)))
  | .ro xs, lo, hi => some (.o (.l (cut xs lo hi)))
  | .str l, lo, hi => if l.length ≤ 16777216 then some (.d (.str (cut l lo hi))) else none
  | _, _, _ => none
theorem cut_reps {Z : Hp} {vs : List V} {ds : List D} (r : Reps T Z vs ds) (lo hi : Option Int) : Reps T Z (cutV vs lo hi) (cut ds lo hi) := by
  unfold cutV cut
  rw [r.length]
  exact (r.drop _).take _
theorem sl_seq : SlR X (fun x lo hi H Q => rSlT X.K x lo hi H Q ∨ rSlL X.K x lo hi H Q ∨ rSlS x lo hi H Q) := sl_tup.or (sl_list.or sl_str)
theorem sl_go (hT : X.K = T.K) {G : Gd} {B : List (Nat × Addr)} {Z H : Hp} {σ : St} {env : Env'} {x : V} {d : D} {r : RV} {lo hi : Option Int} {Q : VK} (E : EOk T G B Z H σ env) (r1 : Rep T Z x d) (h : slD d lo hi = some r)
    (k : ∀ v H' Z', Same Z Z' → EOk T G B Z' H' σ env → RRep T G Z' H' σ env v r → Q v H') : rSlT X.K x lo hi H Q ∨ rSlL X.K x lo hi H Q ∨ rSlS x lo hi H Q := by
  cases r1 with
  | @tup a vs ds hq rs =>
    have h' : (if HT.sIx ds.length 0 lo = 0 ∧ HT.sIx ds.length ds.length hi = ds.length then none else some (RV.d (.tup (cut ds lo hi)))) = some r := h
    split at h'
    · cases h'
    · rename_i hw
      cases h'
      refine .inl ⟨_, _, rfl, by rw [hT]; exact sqt_mono E.sub hq, by rw [rs.length]; exact hw, fun p hp => ?_⟩
      obtain ⟨s, E', r'⟩ := new_tup E hp (cut_reps rs lo hi)
      exact k _ _ _ s E' r'
  | lst hq rs =>
    cases h
    refine .inr (.inl ⟨_, _, rfl, SqL.of (E.sub _ _ hq), fun p hp => ?_⟩)
    obtain ⟨E', r'⟩ := new_list E hp (cut_reps rs lo hi)
    exact k _ _ _ (Same.refl _) E' r'
  | ro hq rs =>
    cases h
    refine .inr (.inl ⟨_, _, rfl, by rw [hT]; exact E.sub.seq hq, fun p hp => ?_⟩)
    obtain ⟨E', r'⟩ := new_list E hp (cut_reps rs lo hi)
    exact k _ _ _ (Same.refl _) E' r'
  | str l =>
    have h' : (if l.length ≤ 16777216 then some (RV.d (.str (cut l lo hi))) else none) = some r := h
    split at h'
    · rename_i hl
      cases h'
      exact .inr (.inr ⟨_, rfl, by rw [SZ_eq]; exact hl, k _ H Z (Same.refl _) E (.str _)⟩)
    · cases h'
  | _ => cases h
def cSl (f : Env' → R) (lo hi : Env' → RO) : Env' → R := fun env => (f env).bind fun d e => (lo e).bind fun l e1 => (hi e1).bind fun u e2 => match slD d l u with | some r => .ok r e2 | none => .no
theorem se_sl {lo hi : Option Expr} {fl fh : Env' → RO} {p2 : Pos} (hT : X.K = T.K) (ha : SE X T W a f) (hl : SO X T W lo fl) (hh : SO X T W hi fh) : SE X T W (.Subscript a (.Slice lo hi none p2) pos) (cSl f fl fh) := by
  refine PE.weak (pe_slice sl_seq ha hl hh) fun σ H Q ⟨G, B, Z, env, E, q⟩ => ?_
  refine useR E q fun x H1 Z1 e1 d s1 E1 r1 q1 => useO E1 q1 fun l H2 Z2 e2 s2 E2 q2 => useO E2 q2 fun u H3 Z3 e3 s3 E3 q3 => ?_
  cases h : slD d l u with
  | none => rw [h] at q3; exact q3.elim
  | some r =>
    rw [h] at q3
    exact sl_go hT E3 (r1.mono (s2.trans s3)) h fun v H' Z' s E' rr => q3 v H' Z' s E' rr
/-- a part of the list that slot i owns: a new list -/
def cSlO (i : Nat) (lo hi : Env' → RO) : Env' → R := fun env => withO i env ((lo env).bind fun l e1 => (hi e1).bind fun u e2 => match e2[i]? with | some (.own _ (.l xs)) => .ok (.o (.l (cut xs l u))) e2 | _ => .no)
theorem se_slO (i : Nat) {x : Str} {p1 p2 : Pos} {lo hi : Option Expr} {fl fh : Env' → RO} (hl : SO X T W lo fl) (hh : SO X T W hi fh) (hN : X.N[i]? = some x := by rfl) (hv : Vis X.env.scope x := by first | exact Or.inl rfl | exact Or.inr (Or.inl rfl) | exact Or.inr (Or.inr rfl)) (hd : (x == ("__debug__" : Str)) = false := by decide)
    (hcd : (x == ("__classdict__" : Str)) = false := by decide) : SE X T W (.Subscript (.Name x p1) (.Slice lo hi none p2) pos) (cSlO i fl fh) := by
  refine PE.weak (pe_slice sl_list (pe_var hN hv hd hcd) hl hh) fun σ H Q ⟨G, B, Z, env, E, q⟩ => ?_
  obtain ⟨pa, b, xs, vs, h, h1, h2, h4, q⟩ := use_own E q
  refine ⟨_, h1, useO E q fun l H2 Z2 e2 s2 E2 q2 => useO E2 q2 fun u H3 Z3 e3 s3 E3 q3 => ?_⟩
  split at q3
  · rename_i b xs h
    obtain ⟨pa', ho, k1, k2, ⟨vs, rfl, k4⟩, _⟩ := E3.own i b _ h
    rw [h1] at k1
    cases k1
    refine ⟨_, _, rfl, SqL.of k2, fun p hp => ?_⟩
    obtain ⟨E', r'⟩ := new_list E3 hp (cut_reps k4 l u)
    exact q3 _ _ _ (Same.refl _) E' r'
  · exact q3.elim
/-- xs[::-1] of a list -/
def cRv (f : Env' → R) : Env' → R := fun env => (f env).bind fun d e => match d with | .lst xs => .ok (.o (.l xs.reverse)) e | .ro xs => .ok (.o (.l xs.reverse)) e | _ => .no
theorem se_rv {k : Nat} {p1 p2 p3 : Pos} (hT : X.K = T.K) (ha : SE X T W a f) : SE X T W (.Subscript a (.Slice none none (some (.UnaryOp .USub (.Constant (.int 1) k p1) p2)) p3) pos) (cRv f) := by
  refine PE.weak (pe_revL ha) fun σ H Q ⟨G, B, Z, env, E, q⟩ => ?_
  refine useR E q fun x H1 Z1 e1 d s1 E1 r1 q1 => ?_
  cases r1 with
  | lst hq rs =>
    refine ⟨_, _, rfl, SqL.of (E1.sub _ _ hq), fun p hp => ?_⟩
    obtain ⟨E', r'⟩ := new_list E1 hp rs.reverse
    exact q1 _ _ _ (Same.refl _) E' r'
  | ro hq rs =>
    refine ⟨_, _, rfl, by rw [hT]; exact E1.sub.seq hq, fun p hp => ?_⟩
    obtain ⟨E', r'⟩ := new_list E1 hp rs.reverse
    exact q1 _ _ _ (Same.refl _) E' r'
  | _ => exact q1.elim

/-! ### built-in functions of data -/
def BI (X : Cx) (T : Tb) (fv : Value) (p : List D → Option RV) : Prop :=
  ∀ (pins : List (Addr × Obj)) (s : Shared) (σ : St) (H : Hp) (xs : List V) (us : List Value) (Q : VK) (G : Gd) (B : List (Nat × Addr)) (Z : Hp) (env : Env') (ds : List D) (r : RV),
    Inv X pins σ H s → Vals xs us → EOk T G B Z H σ env → Reps T Z xs ds → p ds = some r →
    (∀ v H' Z', Same Z Z' → EOk T G B Z' H' σ env → RRep T G Z' H' σ env v r → Q v H') → wpAny (model X.prog X.w) X.A (call fv us) (EP X pins σ Q) X.xe s
theorem BI.of {fv : Value} {p : List D → Option RV} {r : List V → Hp → VK → Prop} (ho : CallR X fv r)
    (h : ∀ (G : Gd) (B : List (Nat × Addr)) (Z H : Hp) (σ : St) (env : Env') (xs : List V) (ds : List D) (w : RV) (Q : VK), EOk T G B Z H σ env → Reps T Z xs ds → p ds = some w →
      (∀ v H' Z', Same Z Z' → EOk T G B Z' H' σ env → RRep T G Z' H' σ env v w → Q v H') → r xs H Q) : BI X T fv p :=
  fun pins s σ H xs us Q G B Z env ds w I rv E rs e c => ho pins s σ H xs us Q I rv (h G B Z H σ env xs ds w Q E rs e c)
def orB (p q : List D → Option RV) : List D → Option RV := fun x => match p x with | some r => some r | none => q x
theorem BI.or {fv : Value} {p q : List D → Option RV} (h : BI X T fv p) (k : BI X T fv q) : BI X T fv (orB p q) := by
  intro pins s σ H xs us Q G B Z env ds r I rv E rs e c
  unfold orB at e
  cases z : p ds with
  | some w =>
    rw [z] at e; cases e
    exact h pins s σ H xs us Q G B Z env ds r I rv E rs z c
  | none =>
    rw [z] at e
    exact k pins s σ H xs us Q G B Z env ds r I rv E rs e c
def cBi (p : List D → Option RV) (fa : Env' → RA) : Env' → R := fun env => (fa env).bind fun as e => match avD as with | some ds => (match p ds with | some r => .ok r e | none => .no) | none => .no
theorem bi_go {fv : Value} {pp : List D → Option RV} (hb : BI X T fv pp) {pins : List (Addr × Obj)} {s : Shared} {σ : St} {H : Hp} {Q : VK} {vs : List V} {us : List Value} (I : Inv X pins σ H s) (rv : Vals vs us)
    (h : ∃ G B Z env as, EOk T G B Z H σ env ∧ AVOk T Z σ vs as ∧ PR T W G B Z σ Q (match avD as with | some ds => (match pp ds with | some r => .ok r env | none => .no) | none => .no)) : wpAny (model X.prog X.w) X.A (call fv us) (EP X pins σ Q) X.xe s := by
  obtain ⟨G, B, Z, env, as, E, r, q⟩ := h
  cases hd : avD as with
  | none => rw [hd] at q; exact q.elim
  | some ds =>
    rw [hd] at q
    dsimp only at q
    cases hp : pp ds with
    | none => rw [hp] at q; exact q.elim
    | some w =>
      rw [hp] at q
      exact hb pins s σ H vs us Q G B Z env ds w I rv E (r.reps hd) hp q
theorem se_bif {x : Str} {id : String} {pp : List D → Option RV} (hb : BI X T (.builtin id) pp) (hm : X.mg x = none) (ha : SA X T W (e :: es) fa) (hg : Gl X x := by rfl) (hv : bootBuiltins x = some (.builtin id) := by decide +kernel) (hn : x ≠ "__name__" := by decide) (hdb : (x == ("__debug__" : Str)) = false := by decide)
    (he : starEach (e :: es) X.env = (false, eval e X.env) :: starEach es X.env := by rfl) (hpl : (backTo pos (starEach es X.env)).any (·.1) = false := by rfl) : SE X T W (.Call (.Name x p) (e :: es) [] pos) (cBi pp fa) := by
  refine ⟨fun pins s σ H Q I ⟨G, B, Z, env, E, q⟩ => ?_⟩
  refine wpAny_Call_Name_kw (ld_blt I hg hm hv ?_ hn hdb)
  have key : tXA T W fa σ H fun vs H1 => ∃ G B Z env as, EOk T G B Z H1 σ env ∧ AVOk T Z σ vs as ∧ PR T W G B Z σ Q (match avD as with | some ds => (match pp ds with | some r => .ok r env | none => .no) | none => .no) :=
    useAR E q fun vs H1 Z1 e as s E1 r q1 => ⟨G, B, Z1, e, as, E1, r, q1⟩
  exact PyProof.Rows.callWith_builtin1 (thn (ha.run pos pins s σ H _ I key) fun us s1 ⟨vs, H1, I1, r1, q1⟩ => bi_go hb I1 r1 q1) he hpl
theorem se_bit {x : Str} {id : String} {pp : List D → Option RV} (hb : BI X T (.type id) pp) (hm : X.mg x = none) (ha : SA X T W (e :: es) fa) (hg : Gl X x := by rfl) (hv : bootBuiltins x = some (.type id) := by decide +kernel) (hn : x ≠ "__name__" := by decide) (hdb : (x == ("__debug__" : Str)) = false := by decide)
    (he : starEach (e :: es) X.env = (false, eval e X.env) :: starEach es X.env := by rfl) (hpl : (backTo pos (starEach es X.env)).any (·.1) = false := by rfl) : SE X T W (.Call (.Name x p) (e :: es) [] pos) (cBi pp fa) := by
  refine ⟨fun pins s σ H Q I ⟨G, B, Z, env, E, q⟩ => ?_⟩
  refine wpAny_Call_Name_kw (ld_blt I hg hm hv ?_ hn hdb)
  have key : tXA T W fa σ H fun vs H1 => ∃ G B Z env as, EOk T G B Z H1 σ env ∧ AVOk T Z σ vs as ∧ PR T W G B Z σ Q (match avD as with | some ds => (match pp ds with | some r => .ok r env | none => .no) | none => .no) :=
    useAR E q fun vs H1 Z1 e as s E1 r q1 => ⟨G, B, Z1, e, as, E1, r, q1⟩
  exact PyProof.Rows.callWith_type1 (thn (ha.run pos pins s σ H _ I key) fun us s1 ⟨vs, H1, I1, r1, q1⟩ => bi_go hb I1 r1 q1) he hpl
/-- a module's name for a built-in function (math.gcd) -/
theorem se_bim {x : Str} {id : String} {pp : List D → Option RV} (hb : BI X T (.builtin id) pp) (hm : X.mg x = some (.builtin id)) (ha : SA X T W (e :: es) fa) (hg : Gl X x := by rfl) (hdb : (x == ("__debug__" : Str)) = false := by decide)
    (he : starEach (e :: es) X.env = (false, eval e X.env) :: starEach es X.env := by rfl) (hpl : (backTo pos (starEach es X.env)).any (·.1) = false := by rfl) : SE X T W (.Call (.Name x p) (e :: es) [] pos) (cBi pp fa) := by
  refine ⟨fun pins s σ H Q I ⟨G, B, Z, env, E, q⟩ => ?_⟩
  refine wpAny_Call_Name_kw (ld_glob I hg hm ?_ hdb)
  have key : tXA T W fa σ H fun vs H1 => ∃ G B Z env as, EOk T G B Z H1 σ env ∧ AVOk T Z σ vs as ∧ PR T W G B Z σ Q (match avD as with | some ds => (match pp ds with | some r => .ok r env | none => .no) | none => .no) :=
    useAR E q fun vs H1 Z1 e as s E1 r q1 => ⟨G, B, Z1, e, as, E1, r, q1⟩
  exact PyProof.Rows.callWith_builtin1 (thn (ha.run pos pins s σ H _ I key) fun us s1 ⟨vs, H1, I1, r1, q1⟩ => bi_go hb I1 r1 q1) he hpl
def bLen : List D → Option RV
  | [.str l] => if l.length ≤ 16777216 then some (.d (.int l.length)) else none
  | [.tup xs] => some (.d (.int xs.length))
  | [.lst xs] => some (.d (.int xs.length))
  | [.ro xs] => some (.d (.int xs.length))
  | _ => none
theorem Reps.one {Z : Hp} {xs : List V} {d : D} (r : Reps T Z xs [d]) : ∃ x, xs = [x] ∧ Rep T Z x d := by
  cases r with
  | cons h r => cases r; exact ⟨_, rfl, h⟩
theorem Reps.two {Z : Hp} {xs : List V} {d d' : D} (r : Reps T Z xs [d, d']) : ∃ x y, xs = [x, y] ∧ Rep T Z x d ∧ Rep T Z y d' := by
  cases r with
  | cons h r => obtain ⟨y, e, h2⟩ := Reps.one r; subst e; exact ⟨_, _, rfl, h, h2⟩
theorem b_len (hT : X.K = T.K) : BI X T (.builtin "len") bLen := BI.of call_len fun G B Z H σ env xs ds w Q E rs e c => by
  unfold bLen at e
  split at e
  · split at e
    · rename_i l hl
      cases e
      obtain ⟨x, rfl, r⟩ := rs.one
      cases r
      exact ⟨_, l.length, rfl, ⟨by rw [SZ_eq]; exact hl, rfl⟩, c _ H Z (Same.refl _) E (.int _)⟩
    · cases e
  · cases e
    obtain ⟨x, rfl, r⟩ := rs.one
    cases r with
    | tup hq rr => exact ⟨_, _, rfl, .inr ⟨_, by rw [hT]; exact sqt_mono E.sub hq, rr.length.symm⟩, c _ H Z (Same.refl _) E (.int _)⟩
  · cases e
    obtain ⟨x, rfl, r⟩ := rs.one
    cases r with
    | lst hq rr => exact ⟨_, _, rfl, .inl ⟨_, SqL.of (E.sub _ _ hq), rr.length.symm⟩, c _ H Z (Same.refl _) E (.int _)⟩
  · cases e
    obtain ⟨x, rfl, r⟩ := rs.one
    cases r with
    | ro hq rr => exact ⟨_, _, rfl, .inl ⟨_, by rw [hT]; exact E.sub.seq hq, rr.length.symm⟩, c _ H Z (Same.refl _) E (.int _)⟩
  · cases e
def bInt : List D → Option RV
  | [.int i] => some (.d (.int i))
  | [.bl b] => some (.d (.int (if b then 1 else 0)))
  | _ => none
theorem b_int : BI X T (.type "int") bInt := BI.of call_int1 fun G B Z H σ env xs ds w Q E rs e c => by
  unfold bInt at e
  split at e
  · cases e
    obtain ⟨x, rfl, r⟩ := rs.one
    cases r
    exact .inl ⟨_, rfl, c _ H Z (Same.refl _) E (.int _)⟩
  · cases e
    obtain ⟨x, rfl, r⟩ := rs.one
    cases r
    exact .inr ⟨_, rfl, c _ H Z (Same.refl _) E (.int _)⟩
  · cases e
def bAbs : List D → Option RV
  | [.int i] => some (.d (.int (if i < 0 then -i else i)))
  | _ => none
theorem b_abs : BI X T (.builtin "abs") bAbs := BI.of call_abs fun G B Z H σ env xs ds w Q E rs e c => by
  unfold bAbs at e
  split at e
  · cases e
    obtain ⟨x, rfl, r⟩ := rs.one
    cases r
    exact ⟨_, rfl, c _ H Z (Same.refl _) E (.int _)⟩
  · cases e
def bGcd : List D → Option RV
  | [.int i, .int j] => some (.d (.int ((Nat.gcd i.natAbs j.natAbs : Nat) : Int)))
  | _ => none
theorem b_gcd : BI X T (.builtin "math.gcd") bGcd := BI.of cr_gcd fun G B Z H σ env xs ds w Q E rs e c => by
  unfold bGcd at e
  split at e
  · cases e
    obtain ⟨x, y, rfl, r, r2⟩ := rs.two
    cases r
    cases r2
    exact ⟨_, _, rfl, c _ H Z (Same.refl _) E (.int _)⟩
  · cases e
def bTup : List D → Option RV
  | [.tup xs] => some (.d (.tup xs))
  | [.lst xs] => some (.d (.tup xs))
  | [.ro xs] => some (.d (.tup xs))
  | _ => none
theorem b_tup (hT : X.K = T.K) : BI X T (.type "tuple") bTup := BI.of call_tuple_of fun G B Z H σ env xs ds w Q E rs e c => by
  unfold bTup at e
  split at e
  · cases e
    obtain ⟨x, rfl, r⟩ := rs.one
    cases r with
    | tup hq rr => exact ⟨_, _, rfl, .inr ⟨by rw [hT]; exact sqt_mono E.sub hq, c _ H Z (Same.refl _) E (.tup hq rr)⟩⟩
  · cases e
    obtain ⟨x, rfl, r⟩ := rs.one
    cases r with
    | lst hq rr =>
      refine ⟨_, _, rfl, .inl ⟨SqL.of (E.sub _ _ hq), fun p hp => ?_⟩⟩
      obtain ⟨s, E', r'⟩ := new_tup E hp rr
      exact c _ _ _ s E' r'
  · cases e
    obtain ⟨x, rfl, r⟩ := rs.one
    cases r with
    | ro hq rr =>
      refine ⟨_, _, rfl, .inl ⟨by rw [hT]; exact E.sub.seq hq, fun p hp => ?_⟩⟩
      obtain ⟨s, E', r'⟩ := new_tup E hp rr
      exact c _ _ _ s E' r'
  · cases e
def bLst : List D → Option RV
  | [.tup xs] => some (.o (.l xs))
  | [.lst xs] => some (.o (.l xs))
  | [.ro xs] => some (.o (.l xs))
  | _ => none
theorem b_lst (hT : X.K = T.K) : BI X T (.type "list") bLst := BI.of call_list_of fun G B Z H σ env xs ds w Q E rs e c => by
  unfold bLst at e
  split at e
  · cases e
    obtain ⟨x, rfl, r⟩ := rs.one
    cases r with
    | tup hq rr =>
      refine ⟨_, _, rfl, .inr (by rw [hT]; exact sqt_mono E.sub hq), fun p hp => ?_⟩
      obtain ⟨E', r'⟩ := new_list E hp rr
      exact c _ _ _ (Same.refl _) E' r'
  · cases e
    obtain ⟨x, rfl, r⟩ := rs.one
    cases r with
    | lst hq rr =>
      refine ⟨_, _, rfl, .inl (SqL.of (E.sub _ _ hq)), fun p hp => ?_⟩
      obtain ⟨E', r'⟩ := new_list E hp rr
      exact c _ _ _ (Same.refl _) E' r'
  · cases e
    obtain ⟨x, rfl, r⟩ := rs.one
    cases r with
    | ro hq rr =>
      refine ⟨_, _, rfl, .inl (by rw [hT]; exact E.sub.seq hq), fun p hp => ?_⟩
      obtain ⟨E', r'⟩ := new_list E hp rr
      exact c _ _ _ (Same.refl _) E' r'
  · cases e
/-- str(n) of an int of less than 1920 bits -/
def codes (s : String) : List Nat := s.toList.map Char.toNat
def bStr : List D → Option RV
  | [.int i] => if i.natAbs.log2 < 1920 then some (.d (.str (codes (toString i)))) else none
  | _ => none
theorem b_str : BI X T (.type "str") bStr := BI.of call_str_int fun G B Z H σ env xs ds w Q E rs e c => by
  unfold bStr at e
  split at e
  · split at e
    · rename_i i hi
      cases e
      obtain ⟨x, rfl, r⟩ := rs.one
      cases r
      refine ⟨_, rfl, hi, ?_⟩
      have : (Str.ofString (toString i)) = ⟨(codes (toString i)).toArray⟩ := ext_tl (by rw [tl_ofString]; rfl)
      show Q (.str (Str.ofString (toString i))) H
      rw [this]
      exact c _ H Z (Same.refl _) E (.str _)
    · cases e
  · cases e
/-- the length of the list that slot i owns -/
def cLenO (i : Nat) : Env' → R := fun e => match e[i]? with | some (.own _ (.l xs)) => .ok (.d (.int xs.length)) e | _ => .no
theorem se_lenO (i : Nat) {x : Str} {p1 : Pos} (hm : X.mg "len" = none) (hN : X.N[i]? = some x := by rfl) (hv : Vis X.env.scope x := by first | exact Or.inl rfl | exact Or.inr (Or.inl rfl) | exact Or.inr (Or.inr rfl)) (hg : Gl X "len" := by rfl) (hd : (x == ("__debug__" : Str)) = false := by decide)
    (hcd : (x == ("__classdict__" : Str)) = false := by decide) (he : starEach [.Name x p1] X.env = (false, eval (.Name x p1) X.env) :: starEach [] X.env := by rfl) : SE X T W (.Call (.Name "len" p) [.Name x p1] [] pos) (cLenO i) := by
  refine PE.weak (pe_callB call_len_seq hg hm PySem.boot_len (pa_cons (pe_var hN hv hd hcd) pa_nil he) (he := he)) fun σ H Q ⟨G, B, Z, env, E, q⟩ => ?_
  unfold cLenO at q
  split at q
  · rename_i b xs h
    obtain ⟨pa, ho, k1, k2, ⟨vs, rfl, k4⟩, _⟩ := E.own i b _ h
    refine ⟨_, k1, pa, vs, rfl, .inl (SqL.of k2), ?_⟩
    rw [k4.length]
    exact q _ H Z (Same.refl _) E (.int _)
  · exact q.elim

/-! ### changing an own list -/
def cApp (i : Nat) (f : Env' → R) : Env' → R := fun env => withO i env ((f env).bind fun d e => match e[i]? with
  | some (.own b (.l xs)) => if xs.length < 16777216 then .ok (.d .non) (e.set i (.own b (.l (xs ++ [d])))) else .no
  | _ => .no)
theorem se_app (i : Nat) {x : Str} {p1 ap : Pos} (hf : SE X T W e f) (hN : X.N[i]? = some x := by rfl) (hv : Vis X.env.scope x := by first | exact Or.inl rfl | exact Or.inr (Or.inl rfl) | exact Or.inr (Or.inr rfl)) (hd : (x == ("__debug__" : Str)) = false := by decide)
    (hcd : (x == ("__classdict__" : Str)) = false := by decide)
    (hbase : attributeBase (.Name x p1) "append" X.env (eval (.Name x p1) X.env) = eval (.Name x p1) X.env := by rfl)
    (hfew : ((backTo pos (starEach [e] X.env)).all (fun x => !x.1) && (backToKw pos (keywordEach [] X.env)).all (fun x => x.1.isSome)
      && decide ([e].length + ([] : List Keyword).length + (if ([] : List Keyword).isEmpty then 0 else 1) < 30)) = true := by rfl)
    (hline : (ap.endLine == pos.line) = true := by rfl) (hs : starEach [e] X.env = (false, eval e X.env) :: starEach [] X.env := by rfl) :
    SE X T W (.Call (.Attribute (.Name x p1) "append" ap) [e] [] pos) (cApp i f) := by
  refine PE.weak (pe_bm PySem.F.plainAttrs_list PySem.F.slot_list_append PySem.F.type_list_append mt_append (pe_var hN hv hd hcd) (pa_cons hf pa_nil hs) hbase hfew hline hs) fun σ H Q ⟨G, B, Z, env, E, q⟩ => ?_
  obtain ⟨pa, b, xs, vs, h, h1, h2, h4, q⟩ := use_own E q
  refine ⟨_, h1, .inl ⟨rfl, _, SqL.of h2⟩, useR E q fun v H1 Z1 e1 d s1 E1 r1 q1 => ?_⟩
  split at q1
  · rename_i b xs h
    obtain ⟨pa', ho, k1, k2, ⟨vs, rfl, k4⟩, _⟩ := E1.own i b _ h
    rw [h1] at k1
    cases k1
    by_cases hl : xs.length < 16777216
    · rw [if_pos hl] at q1
      refine ⟨_, vs, v, rfl, rfl, k2, by rw [k4.length, SZ_eq]; exact hl, ?_⟩
      exact q1 _ _ Z1 (Same.refl _) (E1.mut h h1 ⟨vs ++ [v], rfl, k4.append (.cons r1 .nil)⟩) .non
    · rw [if_neg hl] at q1; exact q1.elim
  · exact q1.elim
/-- xs[i] = v of an own list -/
def sSub (i : Nat) (fv fi : Env' → R) : Env' → RS := fun env => (fv env).bindS fun d e => match e[i]? with
  | some (.own _ (.l _)) => (fi e).bindS fun j e1 => (match e1[i]?, j with
    | some (.own b (.l xs)), .int k => (match ixN xs.length k with | some j => .nx (e1.set i (.own b (.l (xs.set j d)))) | none => .no)
    | _, _ => .no)
  | _ => .no
theorem ss_sub (i : Nat) {x : Str} {p1 p2 : Pos} {ei : Expr} {fi : Env' → R} (hf : SE X T W e f) (hi : SE X T W ei fi) (hN : X.N[i]? = some x := by rfl) (hv : Vis X.env.scope x := by first | exact Or.inl rfl | exact Or.inr (Or.inl rfl) | exact Or.inr (Or.inr rfl)) (hd : (x == ("__debug__" : Str)) = false := by decide)
    (hcd : (x == ("__classdict__" : Str)) = false := by decide)
    (ha : ∀ v, assign (.Subscript (.Name x p1) ei p2) X.env v = (do
      let ov ← holding [v] (eval (.Name x p1) X.env)
      let iv ← holding [v, ov] (eval ei X.env)
      standAt p2
      holding [v, ov, iv] (setItem ov iv v)
      release [v, ov, iv] []) := by intro _; rfl)
    (hs : swapsWithSole [.Subscript (.Name x p1) ei p2] e pos.line X.env = pure false := by rfl) (hw : swappedStores [.Subscript (.Name x p1) ei p2] e X.env = pure none := by rfl)
    (h1 : (assignEach [.Subscript (.Name x p1) ei p2] X.env).map (·.2) = [assign (.Subscript (.Name x p1) ei p2) X.env] := by rfl) : SS X T W (.Assign [.Subscript (.Name x p1) ei p2] e pos) (sSub i f fi) := by
  refine PS.weak (ps_asg hf (pg_sub (pe_var hN hv hd hcd) hi set_list ha) hs hw h1) fun K σ H ⟨G, B, Z, env, E, q⟩ => ?_
  refine useS E q fun v H1 Z1 e1 d s1 E1 r1 q1 => ?_
  split at q1
  · rename_i b xs h
    obtain ⟨pa, ho, k1, k2, ⟨vs, rfl, k4⟩, _⟩ := E1.own i b _ h
    refine ⟨_, k1, useS E1 q1 fun w H2 Z2 e2 j s2 E2 r2 q2 => ?_⟩
    split at q2
    · rename_i b' xs' k h'
      cases r2
      obtain ⟨pa', ho', j1, j2, ⟨vs', rfl, j4⟩, _⟩ := E2.own i b' _ h'
      rw [k1] at j1
      cases j1
      cases hk : ixN xs'.length k with
      | none => rw [hk] at q2; exact q2.elim
      | some jj =>
        rw [hk] at q2
        exact ⟨_, vs', k, jj, rfl, rfl, j2, by rw [j4.length]; exact hk, q2 σ _ Z2 (Same.refl _) (E2.mut h' k1 ⟨_, rfl, j4.set (r1.mono s2) jj⟩)⟩
    · exact q2.elim
  · exact q1.elim
/-- -x -/
def cNeg (f : Env' → R) : Env' → R := fun env => (f env).bind fun d e => match d with | .int i => .ok (.d (.int (-i))) e | _ => .no
theorem se_neg (ha : SE X T W a f) : SE X T W (.UnaryOp .USub a pos) (cNeg f) := by
  refine PE.weak (pe_un un_neg ha) fun σ H Q ⟨G, B, Z, env, E, q⟩ => ?_
  refine useR E q fun v H1 Z1 e d s E1 r q1 => ?_
  cases r with
  | int i => exact ⟨i, rfl, q1 _ H1 Z1 (Same.refl _) E1 (.int _)⟩
  | _ => exact q1.elim
/-- a module's constant -/
theorem se_glob {x : Str} {d : D} {v : V} {u : Value} (hm : X.mg x = some u) (r : RelV v u) (rr : ∀ Z, Rep T Z v d) (hg : Gl X x := by rfl) (hd : (x == ("__debug__" : Str)) = false := by decide) : SE X T W (.Name x pos) (cK d) := se_k (pe_glob hg hm r hd) rr
theorem se_bltn {x : Str} {n : String} (hm : X.mg x = none) (hg : Gl X x := by rfl) (hv : bootBuiltins x = some (.type n) := by decide +kernel) (hn : x ≠ "__name__" := by decide) (hd : (x == ("__debug__" : Str)) = false := by decide) : SE X T W (.Name x pos) (cK (.ty n)) := se_k (pe_bltn (v := .ty n) hg hm hv rfl hn hd) fun _ => .ty n
end
end L2.S

set_option Elab.async false
set_option linter.all false
set_option maxRecDepth 100000
set_option maxHeartbeats 4000000
namespace L2.S
open PySem PySem.Spec PyProof.Rows
/-! ### != where only == is the class's own -/
section
open PySem.W Builtin
variable {prog : Program} {w : World} {A : Around} {E : Value → Shared → Prop} {s : Shared} {K : PySem.W.Frag} {x C f L : Addr} {h₀ : Heap} {m : Str → Option Value} {ox : Obj} {od : Option Obj} {b tb : Value}
/-- the answer of an own ==, a truth value, turned -/
def NeBack (Q : Value → Shared → Prop) (v : Value) (s' : Shared) : Prop := ∃ k, v = .bool k ∧ Q (.bool (!k)) s'
theorem ne_K {Q : Value → Shared → Prop} (hu : A.units + 1 < cLine) (F : Fr h₀ L s.heap m) (X₀ : K.In h₀) (I : PySem.W.InstAt s.heap x ox C od) (hb : PySem.W.Looks (model prog w) s.heap (typeOf b) tb) (hn : PySem.W.notFirst K C tb = true)
    (hs : PySem.W.findIn K (.ref C) "__eq__" = some (some (.ref f))) (hf : PySem.W.isFn K (.ref f) = true) (hne : PySem.W.findIn K (.ref C) "__ne__" = some (some (.builtin "object.__ne__"))) (hob : PySem.W.mroIn K C (.type "object") = some true)
    (h : wpAny (model prog w) A.in1 (call (.ref f) [.ref x, b]) (NeBack Q) E s) : wpAny (model prog w) A (richCompare .NotEq (.ref x) b) Q E s := by
  have X := X₀.keeps F.keep
  have one : wpAny (model prog w) A (tryCompare (.ref x) "__ne__" b) (fun r s' => ∃ v, r = some v ∧ Q v s') E s := by
    unfold tryCompare
    refine wpAny_bind ?_
    simp only [callSpecialIfBound?, bindSpecialIfBound?]
    refine wpAny_holding (wpAny_bind (wpAny_bind (wpAny_bind (I.type.here ((looks_findIn X hne).here ?_)))))
    have body : wpAny (model prog w) A (call (.builtin "object.__ne__") ([.ref x] ++ [b])) (fun v s' => v ≠ .notImplemented ∧ Q v s') E s := by
      refine wpAny_call (codeAny_call_builtin (by decide +kernel) PySem.F.cmpEntry_ne (check_slot PySem.F.cmpKind_ne PySem.F.cmpSplit_ne ((I.type.andThen (looks_mroIn X hob))) (PySem.F.cmpArgs_ne _ _) ?_))
      show wpAny (model prog w) A.in1 (Builtin.«object.__ne__» ⟨[.ref x, b], []⟩) _ E s
      unfold Builtin.«object.__ne__»
      refine wpAny_bind (m := slotArgs "__ne__" 1 _) (wpAny_pure ?_)
      refine wpAny_bind (wpAny_cRoomFor (show A.in1.units < cLine from hu) ?_)
      refine wpAny_bind (ifBound_K X I hs hf (wpAny_mono h (fun v s' hv => ?_) fun _ _ e => e))
      obtain ⟨k, rfl, q⟩ := hv
      refine wpAny_bind (wpAny_truthy_bool ?_)
      exact wpAny_pure ⟨(fun z => nomatch z), q⟩
    refine wpAny_bind (wpAny_askSetting (wpAny_ite ?_))
    have fin : wpAny (model prog w) A (call (.builtin "object.__ne__") ([.ref x] ++ [b]) >>= fun v => pure (some v)) (fun r s' => wpAny (model prog w) A (match r with | some .notImplemented | none => pure none | some v => pure (some v)) (fun r s' => ∃ v, r = some v ∧ Q v s') E s') E s := by
      refine wpAny_bind (wpAny_mono body (fun v s' hv => wpAny_pure ?_) fun _ _ e => e)
      obtain ⟨n, q⟩ := hv
      cases v <;> first | exact (n rfl).elim | exact wpAny_pure ⟨_, rfl, q⟩
    split
    · exact wpAny_bind (by rw [PySem.F.cmp_object.ne.bind]; exact wpAny_pure (wpAny_pure (by exact fin)))
    · exact wpAny_tryCatch (wpAny_bind (by rw [PySem.F.cmp_object.ne.bind]; exact wpAny_pure (wpAny_pure (by exact fin))))
  unfold richCompare
  simp only [oneThing_ref]
  refine wpAny_holding (wpAny_bind (wpAny_cRoomFor (Nat.lt_of_succ_lt hu) ?_))
  refine wpAny_bind (I.type.here (wpAny_bind (hb.here ?_)))
  split
  · rename_i q
    have e : subIn K tb (.ref C) = some false := by
      rcases Bool.or_eq_true_iff.mp hn with e | e
      · rw [beq_iff_eq.mp e] at q; simp at q
      · exact beq_iff_eq.mp e
    refine wpAny_bind ((looks_subIn X e).here ?_)
    simp only [Bool.false_eq_true, if_false]
    refine wpAny_bind (wpAny_mono one (fun r s' z => ?_) fun _ _ e => e)
    obtain ⟨v, rfl, hq⟩ := z
    exact wpAny_pure hq
  · refine wpAny_bind (wpAny_pure ?_)
    simp only [Bool.false_eq_true, if_false]
    refine wpAny_bind (wpAny_mono one (fun r s' z => ?_) fun _ _ e => e)
    obtain ⟨v, rfl, hq⟩ := z
    exact wpAny_pure hq
end
end L2.S

set_option Elab.async false
set_option linter.all false
set_option maxRecDepth 100000
set_option maxHeartbeats 4000000
namespace L2.S
open PySem PySem.Spec PyProof.Rows
section
variable {X : Cx} {T : Tb} {W : WX} {a b c e : Expr} {es : List Expr} {f g : Env' → R} {fa : Env' → RA} {pos p apos : Pos} {k : Nat} {φ : Fn} {x m : Str} {fx : Addr}
/-! ### operators whose answer may be an outcome of a def -/
def OpE (X : Cx) (T : Tb) (W : WX) (sem : Value → Value → Sem Value) (p : D → D → Env' → R) : Prop :=
  ∀ (pins : List (Addr × Obj)) (s : Shared) (σ : St) (H : Hp) (x y : V) (v u : Value) (Q : VK) (G : Gd) (B : List (Nat × Addr)) (Z : Hp) (env : Env') (dx dy : D),
    Inv X pins σ H s → RelV x v → RelV y u → EOk T G B Z H σ env → Rep T Z x dx → Rep T Z y dy → PR T W G B Z σ Q (p dx dy env) → wpAny (model X.prog X.w) X.A (sem v u) (EP X pins σ Q) X.xe s
theorem OpE.of {sem : Value → Value → Sem Value} {p : D → D → Option RV} (ho : Op2 X T sem p) : OpE X T W sem (ofOp p) := by
  intro pins s σ H x y v u Q G B Z env dx dy I rx ry E r1 r2 h
  unfold ofOp at h
  cases q : p dx dy with
  | none => rw [q] at h; exact h.elim
  | some r =>
    rw [q] at h
    exact ho pins s σ H x y v u Q G B Z σ env dx dy r I rx ry E r1 r2 q h
theorem Two.opE {sem : Value → Value → Sem Value} {p : D → D → Env' → R} (ho : OpE X T W sem p) {pins : List (Addr × Obj)} {s : Shared} {σ : St} {H : Hp} {x y : V} {v u : Value} {Q : VK}
    (I : Inv X pins σ H s) (rx : RelV x v) (ry : RelV y u) (h : Two T W p σ Q x y H) : wpAny (model X.prog X.w) X.A (sem v u) (EP X pins σ Q) X.xe s := by
  obtain ⟨G, B, Z, e, dx, dy, E, r1, r2, h⟩ := h
  exact ho pins s σ H x y v u Q G B Z e dx dy I rx ry E r1 r2 h
theorem se_binE {op : Operator} {p : D → D → Env' → R} (ho : OpE X T W (binaryOp op) p) (ha : SE X T W a f) (hb : SE X T W b g) : SE X T W (.BinOp a op b pos) (two p f g) := by
  refine ⟨fun pins s σ H Q I h => ?_⟩
  exact wpAny_BinOp (binT ha hb I (two_tX h) fun v u s2 x y H2 I2 rx ry q => q.opE ho I2 rx ry)
theorem se_cmpE {op : CmpOp} {p : D → D → Env' → R} (ho : OpE X T W (compareOp op) p) (ha : SE X T W a f) (hb : SE X T W b g) (hm : behindInMarks op b = false) : SE X T W (.Compare a [op] [b] pos) (two p f g) := by
  refine ⟨fun pins s σ H Q I h => ?_⟩
  exact wpAny_Compare1 (binT ha hb I (two_tX h) fun v u s2 x y H2 I2 rx ry q => q.opE ho I2 rx ry) hm
/-- what a def's promise makes of arguments that are data -/
theorem run_C {φ : Fn} {dds : List D} (F : FnC X.prog X.w X.K X.mg X.base T k φ dds fx) (hr : Room k X.A) (tk : Takes X W) {pins : List (Addr × Obj)} {s : Shared} {σ : St} {H : Hp} {vs : List V} {us : List Value} {Q : VK} {G : Gd} {B : List (Nat × Addr)} {Z : Hp} {env : Env'} {as : List AV}
    (I : Inv X pins σ H s) (r : Vals vs us) (E : EOk T G B Z H σ env) (ra : AVOk T Z σ vs as) (h : PR T W G B Z σ Q (callR φ dds as env)) : wpAny (model X.prog X.w) X.A (call (.ref fx) us) (EP X pins σ Q) X.xe s := by
  obtain ⟨fd, ps, dvs, ds, F1, hb, hd, dfl⟩ := F.ex
  exact run_fnG F1 hr hb hd (passAt tk σ) I r (call_sp dfl E ra h)
/-! ### own operators -/
structure OwnOp (X : Cx) (T : Tb) (c : Nat) (nm : Str) (φ : Fn) : Prop where
  ex : ∃ k fx, FnC X.prog X.w X.K X.mg X.base T k φ [] fx ∧ Room k X.A ∧ PySem.W.findIn X.K (.ref (T.cl c)) nm = some (some (.ref fx)) ∧ PySem.W.isFn X.K (.ref fx) = true
  sf : PySem.W.selfFirst X.K (T.cl c) = true
def OwnOps (X : Cx) (T : Tb) (nm : Str) (M : List (Nat × Fn)) : Prop := ∀ c φ, M.lookup c = some φ → OwnOp X T c nm φ
theorem ownOps_0 {nm : Str} : OwnOps X T nm [] := fun c φ h => by simp at h
theorem ownOps_c {nm : Str} {M : List (Nat × Fn)} {c : Nat} (h : OwnOp X T c nm φ) (r : OwnOps X T nm M) : OwnOps X T nm ((c, φ) :: M) := fun c' φ' q => by
  rw [List.lookup_cons] at q
  cases z : c' == c with
  | true =>
    rw [z] at q; cases q
    have := eq_of_beq z
    subst this
    exact h
  | false => rw [z] at q; exact r c' φ' q
/-- x op y where x may be of an own class (y of the same); otherwise p -/
def pOwn (M : List (Nat × Fn)) (p : D → D → Option RV) : D → D → Env' → R := fun x y e => match x with
  | .obj c xs => (match y with
    | .obj c' ys => if c' = c then (match M.lookup c with | some φ => callR φ [] [.d (.obj c xs), .d (.obj c' ys)] e | none => .no) else .no
    | _ => .no)
  | _ => ofOp p x y e
theorem rep_obj {Z : Hp} {v : V} {c : Nat} {xs : List D} (r : Rep T Z v (.obj c xs)) : ∃ a dx vs, v = .ref a ∧ Z a = some (.ins (T.cl c) dx ((T.fl c).zip vs)) := by
  cases r with
  | @obj a dx vs _ _ h n rs => exact ⟨a, dx, vs, rfl, h⟩
theorem oe_own {op : Operator} {M : List (Nat × Fn)} {p : D → D → Option RV} (tk : Takes X W) (ho : Op2 X T (binaryOp op) p) (hM : OwnOps X T (PySem.dunder op.info.2) M) : OpE X T W (binaryOp op) (pOwn M p) := by
  intro pins s σ H x y v u Q G B Z env dx dy I rx ry E r1 r2 h
  by_cases hd : ∃ c xs, dx = .obj c xs
  · obtain ⟨c, xs, rfl⟩ := hd
    unfold pOwn at h
    dsimp only at h
    split at h
    · rename_i c' ys
      split at h
      · rename_i hc
        subst hc
        cases hl : M.lookup c' with
        | none => rw [hl] at h; exact h.elim
        | some φ =>
          rw [hl] at h
          obtain ⟨⟨k, fx, F, hr, at_, fn⟩, sf⟩ := hM c' φ hl
          obtain ⟨a1, dx1, vs1, rfl, z1⟩ := rep_obj r1
          obtain ⟨a2, dx2, vs2, rfl, z2⟩ := rep_obj r2
          cases rx
          cases ry
          obtain ⟨mA, J, _⟩ := ins_get I.hok (E.sub _ _ z1)
          obtain ⟨mB, J', _⟩ := ins_get I.hok (E.sub _ _ z2)
          obtain ⟨od, J, _⟩ := J.look
          obtain ⟨od', J', _⟩ := J'.look
          obtain ⟨m, hF⟩ := I.fr
          refine PySem.W.binop_K hF I.ok.mod.kin J J'.type sf at_ fn (wpAny_mono (run_C (vs := [.ref a1, .ref a2]) (as := [.d _, .d _]) F hr tk I (.cons rfl (.cons rfl .nil)) E ⟨r1, r2, True.intro⟩ h) (fun v s' q => ?_) fun _ _ z => z)
          obtain ⟨w, H', I', rw_, q'⟩ := q
          exact SlX.cmpback rw_ ⟨w, H', I', rw_, q'⟩
      · exact h.elim
    · exact h.elim
  · have : pOwn M p dx dy env = ofOp p dx dy env := by
      unfold pOwn
      split
      · exact (hd ⟨_, _, rfl⟩).elim
      · rfl
    rw [this] at h
    exact OpE.of ho pins s σ H x y v u Q G B Z env dx dy I rx ry E r1 r2 h
/-! ### unary minus -/
def cNegM (M : List (Nat × Fn)) (f : Env' → R) : Env' → R := fun env => (f env).bind fun d e => match d with
  | .int i => .ok (.d (.int (-i))) e
  | .obj c xs => (match M.lookup c with | some φ => callR φ [] [.d (.obj c xs)] e | none => .no)
  | _ => .no
theorem se_negM {M : List (Nat × Fn)} (tk : Takes X W) (hM : OwnOps X T "__neg__" M) (ha : SE X T W a f) : SE X T W (.UnaryOp .USub a pos) (cNegM M f) := by
  refine ⟨fun pins s σ H Q I h => ?_⟩
  obtain ⟨G, B, Z, env, E, q⟩ := h
  refine wpAny_UnaryOp (thn (ha.run pins s σ H _ I (useR (P := fun v H1 => ∃ Z1 e d, EOk T G B Z1 H1 σ e ∧ Rep T Z1 v d ∧ PR T W G B Z1 σ Q (match d with
    | .int i => .ok (.d (.int (-i))) e
    | .obj c xs => (match M.lookup c with | some φ => callR φ [] [.d (.obj c xs)] e | none => .no)
    | _ => .no)) E q fun v H1 Z1 e d s E1 r q1 => ⟨Z1, e, d, E1, r, q1⟩)) fun u s1 ⟨x, H1, I1, rx, Z1, e, d, E1, r, q1⟩ => ?_)
  cases r with
  | int i => exact un_neg pins s1 σ H1 (.int i) u Q I1 rx ⟨i, rfl, q1 _ H1 Z1 (Same.refl _) E1 (.int _)⟩
  | @obj a dx vs c ds h n rs =>
    dsimp only at q1
    cases hl : M.lookup c with
    | none => rw [hl] at q1; exact q1.elim
    | some φ =>
      rw [hl] at q1
      obtain ⟨⟨k, fx, F, hr, at_, fn⟩, sf⟩ := hM c φ hl
      cases rx
      obtain ⟨mA, J, _⟩ := ins_get I1.hok (E1.sub _ _ h)
      obtain ⟨od, J, _⟩ := J.look
      obtain ⟨m, hF⟩ := I1.fr
      exact PySem.W.ksp_neg hF I1.ok.mod.kin J at_ fn (run_C (vs := [.ref a]) (as := [.d _]) F hr tk I1 (.cons rfl .nil) E1 ⟨.obj h n rs, True.intro⟩ q1)
  | _ => exact q1.elim
end
end L2.S

set_option Elab.async false
set_option linter.all false
set_option maxRecDepth 100000
set_option maxHeartbeats 4000000
namespace L2.S
open PySem PySem.Spec PyProof.Rows
section
variable {X : Cx} {T : Tb} {W : WX} {a b c e : Expr} {es : List Expr} {f g h : Env' → R} {fa : Env' → RA} {pos p apos : Pos} {k : Nat} {φ : Fn} {x m : Str} {fx : Addr}
/-! ### types -/
/-- the kind of a value -/
def kd : D → Nat
  | .non => 0 | .bl _ => 1 | .int _ => 2 | .str _ => 3 | .tup _ => 4 | .lst _ => 5 | .ro _ => 5 | .obj c _ => 10 + c | _ => 6
def kTy (T : Tb) : Nat → Value
  | 0 => .type "NoneType" | 1 => .type "bool" | 2 => .type "int" | 3 => .type "str" | 4 => .type "tuple" | 5 => .type "list" | 6 => .none | 7 => .none | 8 => .none | 9 => .none | n + 10 => .ref (T.cl n)
structure ClsI (K : PySem.W.Frag) (T : Tb) (c : Nat) : Prop where
  ca : PySem.W.findIn K (.ref (T.cl c)) "__class__" = some (some (.builtin "object.__class__"))
  cn : PySem.W.specialIn K (.builtin "object.__class__") "__get__" = some (some (.builtin "getset_descriptor.__get__"))
  ct : PySem.W.takesIn K (.builtin "object.__class__") = some true
  cm : PySem.W.mroIn K (T.cl c) (.type "object") = some true
theorem ty_tup {K : PySem.W.Frag} {H : Hp} {a : Addr} {vs : List V} (q : SqT K H a vs) : TyX K H (.ref a) (.type "tuple") := by
  rcases q with (q | ⟨o, q⟩) | ⟨o, its, n, q, hc, _⟩
  · exact .base (.tup q)
  · exact .fTuple q
  · exact .kTuple q hc
theorem ty_lst {K : PySem.W.Frag} {H : Hp} {a : Addr} {vs : List V} (q : SqL K H a vs) : TyX K H (.ref a) (.type "list") := by
  rcases q with (q | ⟨o, q⟩) | ⟨o, its, n, q, hc, _⟩
  · exact .base (.lst q)
  · exact .base (.frz q)
  · exact .kList q hc
theorem ty_rep {K : PySem.W.Frag} {Z H : Hp} {v : V} {d : D} (hT : K = T.K) (s : Same Z H) (r : Rep T Z v d) (hk : kd d ≠ 6) (ci : ∀ c, kd d = 10 + c → ClsI K T c ∧ Cls K (T.cl c)) : TyX K H v (kTy T (kd d)) := by
  cases r with
  | non => exact .base .non
  | bl b => exact .base (.bl b)
  | int i => exact .base (.int i)
  | str l => exact .base (.str _)
  | tup q _ => exact ty_tup (by rw [hT]; exact sqt_mono s q)
  | lst q _ => exact ty_lst (.of (s _ _ q))
  | ro q _ => exact ty_lst (by rw [hT]; exact s.seq q)
  | @obj a dx vs c ds q n rs =>
    obtain ⟨I, cl⟩ := ci c rfl
    have e1 : kTy T (kd (.obj c ds)) = .ref (T.cl c) := by
      show kTy T (10 + c) = _
      rw [Nat.add_comm]
      rfl
    rw [e1]
    exact .base (.ins (s _ _ q) cl I.ca I.cn I.ct I.cm)
  | _ => exact (hk rfl).elim
/-! ### == and != with an own == -/
structure OwnEq (X : Cx) (T : Tb) (c : Nat) (φ : Fn) (ks : List Nat) : Prop where
  op : ∃ k fx, FnC X.prog X.w X.K X.mg X.base T k φ [] fx ∧ Room (k + 1) X.A ∧ PySem.W.findIn X.K (.ref (T.cl c)) "__eq__" = some (some (.ref fx)) ∧ PySem.W.isFn X.K (.ref fx) = true
  nf : ∀ n ∈ ks, n ≠ 6 ∧ PySem.W.notFirst X.K (T.cl c) (kTy T n) = true ∧ ∀ c', n = 10 + c' → ClsI X.K T c' ∧ Cls X.K (T.cl c')
  ne : PySem.W.findIn X.K (.ref (T.cl c)) "__ne__" = some (some (.builtin "object.__ne__"))
  ob : PySem.W.mroIn X.K (T.cl c) (.type "object") = some true
def OwnEqs (X : Cx) (T : Tb) (M : List (Nat × Fn × List Nat)) : Prop := ∀ c φ ks, M.lookup c = some (φ, ks) → OwnEq X T c φ ks
theorem ownEqs_0 : OwnEqs X T [] := fun c φ ks h => by simp at h
theorem ownEqs_c {M : List (Nat × Fn × List Nat)} {c : Nat} {ks : List Nat} (h : OwnEq X T c φ ks) (r : OwnEqs X T M) : OwnEqs X T ((c, φ, ks) :: M) := fun c' φ' ks' q => by
  rw [List.lookup_cons] at q
  cases z : c' == c with
  | true =>
    rw [z] at q; cases q
    have := eq_of_beq z
    subst this
    exact h
  | false => rw [z] at q; exact r c' φ' ks' q
def R.boolTo (neg : Bool) : R → R
  | .ok (.d (.bl b)) e => .ok (.d (.bl (if neg then !b else b))) e
  | .ex x e => .ex x e
  | _ => .no
/-- a list or a tuple beside a text -/
def pEqX : D → D → Option RV := fun x y => match x, y with
  | .lst _, .str _ => some (.d (.bl false))
  | .ro _, .str _ => some (.d (.bl false))
  | .tup _, .str _ => some (.d (.bl false))
  | _, _ => none
theorem o_eqX (hT : X.K = T.K) (hu : X.A.units < cLine) : Op2 X T (compareOp .Eq) pEqX := by
  intro pins s σ H x y v u Q G B Z σ' env dx dy r I rx ry E r1 r2 e c
  unfold pEqX at e
  split at e
  · cases e
    cases r2
    cases r1 with
    | lst q rs =>
      cases rx
      obtain ⟨t, rfl⟩ := ry
      obtain ⟨its, rv, ⟨o, n, ho, hc, _, hd⟩, _⟩ := I.list (SqL.of (E.sub _ _ q))
      exact SeqAt.RcAt.list_str _ _ ⟨o, ho, hc, n, hd⟩ hu _ _ _ _ ⟨.bl false, H, I, rfl, c _ H Z (Same.refl _) E (.bl _)⟩
  · cases e
    cases r2
    cases r1 with
    | ro q rs =>
      cases rx
      obtain ⟨t, rfl⟩ := ry
      obtain ⟨its, rv, ⟨o, n, ho, hc, _, hd⟩, _⟩ := I.list (show SqL X.K H _ _ by rw [hT]; exact E.sub.seq q)
      exact SeqAt.RcAt.list_str _ _ ⟨o, ho, hc, n, hd⟩ hu _ _ _ _ ⟨.bl false, H, I, rfl, c _ H Z (Same.refl _) E (.bl _)⟩
  · cases e
    cases r2
    cases r1 with
    | tup q rs =>
      cases rx
      obtain ⟨t, rfl⟩ := ry
      obtain ⟨its, rv, ⟨o, ho, hc, n, hd⟩, _⟩ := I.tuple (show SqT X.K H _ _ by rw [hT]; exact sqt_mono E.sub q)
      exact SeqAt.RcAt.tuple_str _ _ ⟨o, ho, hc, n, hd⟩ hu _ _ _ _ ⟨.bl false, H, I, rfl, c _ H Z (Same.refl _) E (.bl _)⟩
  · cases e
def pEqM (neg : Bool) (M : List (Nat × Fn × List Nat)) (q : D → D → Option RV) : D → D → Env' → R := fun x y e => match x with
  | .obj c xs => (match M.lookup c with
    | some (φ, ks) => if kd y ∈ ks then (callR φ [] [.d (.obj c xs), .d y] e).boolTo neg else .no
    | none => .no)
  | _ => ofOp q x y e
theorem eqM_go (hT : X.K = T.K) {neg : Bool} {M : List (Nat × Fn × List Nat)} (tk : Takes X W) (hM : OwnEqs X T M) {q : D → D → Option RV} {op : CmpOp} (hop : (neg = false ∧ op = .Eq) ∨ (neg = true ∧ op = .NotEq)) (ho : Op2 X T (compareOp op) q) : OpE X T W (compareOp op) (pEqM neg M q) := by
  intro pins s σ H x y v u Q G B Z env dx dy I rx ry E r1 r2 h
  by_cases hd : ∃ c xs, dx = .obj c xs
  · obtain ⟨c, xs, rfl⟩ := hd
    unfold pEqM at h
    dsimp only at h
    cases hl : M.lookup c with
    | none => rw [hl] at h; exact h.elim
    | some φk =>
      obtain ⟨φ, ks⟩ := φk
      rw [hl] at h
      dsimp only at h
      split at h
      · rename_i hk
        obtain ⟨⟨k, fx, F, hr, at_, fn⟩, nf, ne, ob⟩ := hM c φ ks hl
        obtain ⟨h6, hn, hci⟩ := nf _ hk
        obtain ⟨a1, dx1, vs1, rfl, z1⟩ := rep_obj r1
        cases rx
        obtain ⟨mA, J, _⟩ := ins_get I.hok (E.sub _ _ z1)
        obtain ⟨od, J, _⟩ := J.look
        obtain ⟨m, hF⟩ := I.fr
        obtain ⟨P, KX, hP, _⟩ := kit_of I ry (ty_rep hT E.sub r2 h6 hci)
        have hty := KX.ty (model X.prog X.w) s.heap I.kIn hP
        have rr : AVOk T Z σ [V.ref a1, y] [.d (.obj c xs), .d dy] := ⟨r1, r2, True.intro⟩
        have go : ∀ (X' : Cx) (hX : X' = X), ∀ (A : Around), (A = X.A ∨ A = X.A.in1) → wpAny (model X.prog X.w) A (call (.ref fx) [.ref a1, u]) (fun v s' => ∃ k, v = .bool k ∧ EP X pins σ Q (.bool (if neg then !k else k)) s') X.xe s := fun X' hX A hA => by
          have base : ∀ (rr2 : Room k A) (e0 : Env0 X.prog X.w X.K X.mg X.base A X.stack s H), wpAny (model X.prog X.w) A (call (.ref fx) [.ref a1, u]) (fun v s' => ∃ k, v = .bool k ∧ EP X pins σ Q (.bool (if neg then !k else k)) s') X.xe s := fun rr2 e0 => by
            obtain ⟨fd, ps, dvs, ds, F1, hb, hd, dfl⟩ := F.ex
            have hsp : sp T φ ([V.ref a1, y] ++ dvs) H (fun v H' => ∃ k, v = .bl k ∧ Q (.bl (if neg then !k else k)) H') (fun cls d H' => W cls d σ H') := call_sp dfl E rr (by
              unfold R.boolTo at h
              cases hc : callR φ [] [.d (.obj c xs), .d dy] env with
              | no => rw [hc] at h; exact h.elim
              | ex x e => rw [hc] at h; exact h
              | ok r e =>
                rw [hc] at h
                cases r with
                | o o => exact h.elim
                | d d =>
                  cases d with
                  | bl b => exact fun v H' Z' s' E' r' => by cases r'; exact ⟨b, rfl, h _ H' Z' s' E' (.bl _)⟩
                  | _ => exact h.elim)
            have r2' : Vals ([V.ref a1, y] ++ dvs) ([.ref a1, u] ++ ds) := (show Vals [V.ref a1, y] [.ref a1, u] from .cons rfl (.cons ry .nil)).append hd
            have hlen : ([Value.ref a1, u] ++ ds).length = ps.length := by rw [← r2'.length]; exact F1.len _ _ _ _ hsp
            refine wpAny_call (codeAny_mono (F1.run A X.stack s H ⟨[.ref a1, u], []⟩ ([.ref a1, u] ++ ds) ([V.ref a1, y] ++ dvs) _ _ rr2 e0 (hb s _ I.kIn hlen) r2' hsp) fun r s' hq => ?_)
            cases r with
            | error e => exact passAt tk σ pins H s e s' I hq
            | ok fl =>
              cases fl with
              | ret u' =>
                obtain ⟨w, H', I', rw', k, e, q'⟩ := I.after hq
                subst e
                cases rw'
                exact ⟨k, rfl, .bl _, H', I', rfl, q'⟩
              | next => exact False.elim hq
              | brk => exact False.elim hq
              | cont => exact False.elim hq
          rcases hA with rfl | rfl
          · exact base (hr.mono (Nat.le_succ _)) I.env0
          · exact base hr.in1 I.env0.in1
        rcases hop with ⟨rfl, rfl⟩ | ⟨rfl, rfl⟩
        · refine PySem.W.cmp_K (op := .Eq) (tb := kTy T (kd dy)) hr.units0 hF I.ok.mod.kin J hty hn at_ fn (wpAny_mono (go X rfl X.A (.inl rfl)) (fun v s' z => ?_) fun _ _ z => z)
          obtain ⟨k, rfl, q'⟩ := z
          exact q'
        · refine ne_K (by have := hr.in1; have := this.units0; exact this) hF I.ok.mod.kin J hty hn at_ fn ne ob (wpAny_mono (go X rfl X.A.in1 (.inr rfl)) (fun v s' z => ?_) fun _ _ z => z)
          obtain ⟨k, rfl, q'⟩ := z
          exact ⟨k, rfl, q'⟩
      · exact h.elim
  · have : pEqM neg M q dx dy env = ofOp q dx dy env := by
      unfold pEqM
      split
      · exact (hd ⟨_, _, rfl⟩).elim
      · rfl
    rw [this] at h
    exact OpE.of ho pins s σ H x y v u Q G B Z env dx dy I rx ry E r1 r2 h
end
end L2.S

set_option Elab.async false
set_option linter.all false
set_option maxRecDepth 100000
set_option maxHeartbeats 4000000
namespace L2.S
open PySem PySem.Spec PyProof.Rows
section
variable {X : Cx} {T : Tb} {W : WX} {a b c e : Expr} {es : List Expr} {f g h : Env' → R} {fa : Env' → RA} {pos p apos : Pos} {k : Nat} {φ : Fn} {x m : Str} {fx : Addr}
/-! ### comparisons as tests -/
theorem st_cmpE {op : CmpOp} {p : D → D → Env' → R} (hT : X.K = T.K) (ho : OpE X T W (compareOp op) p) (ha : SE X T W a f) (hb : SE X T W b g) (hm : behindInMarks op b = false) : ST X T W (.Compare a [op] [b] pos) (cTr (two p f g)) := by
  refine ⟨fun pins s σ H Q I h => ?_⟩
  have h' : tX T W (two p f g) σ H fun v H1 => ∃ k, TruV X.K v H1 k ∧ Q k H1 := by
    obtain ⟨G, B, Z, env, E, q⟩ := h
    refine useT E q fun v H1 Z1 e d s E1 r q1 => ?_
    cases h : truthD d with
    | none => rw [h] at q1; exact q1.elim
    | some b =>
      rw [h] at q1
      exact ⟨b, tru_rep hT E1 r h, q1 H1 Z1 (Same.refl _) E1⟩
  refine wpAny_isTrue_Compare1 (binT ha hb I (two_tX h') fun v u s2 x y H2 I2 rx ry q => thn (q.opE ho I2 rx ry) fun c s3 ⟨z, H3, I3, r3, q3⟩ => tru_ok pins s3 σ H3 z c Q I3 r3 q3) hm
/-! ### a < b < c -/
def cCh (p q : D → D → Option RV) (f g h : Env' → R) : Env' → R := fun env => (f env).bind fun x e => (g e).bind fun y e1 => match p x y with
  | some (.d (.bl true)) => (h e1).bind fun z e2 => ofOp q y z e2
  | some (.d (.bl false)) => .ok (.d (.bl false)) e1
  | _ => .no
theorem se_ch {op op' : CmpOp} {p q : D → D → Option RV} (ho : Op2 X T (compareOp op) p) (ho' : Op2 X T (compareOp op') q) (ha : SE X T W a f) (hb : SE X T W b g) (hc : SE X T W c h)
    (hm : lastMarks [op, op'] [b, c] = false := by with_unfolding_all rfl) : SE X T W (.Compare a [op, op'] [b, c] pos) (cCh p q f g h) := by
  refine ⟨fun pins s σ H Q I hq => ?_⟩
  obtain ⟨G, B, Z, env, E, hq⟩ := hq
  refine Compare_chain (thn (ha.run pins s σ H _ I (useR (P := fun x H1 => ∃ Z1 e dx, EOk T G B Z1 H1 σ e ∧ Rep T Z1 x dx ∧ PR T W G B Z1 σ Q ((g e).bind fun y e1 => match p dx y with
    | some (.d (.bl true)) => (h e1).bind fun z e2 => ofOp q y z e2
    | some (.d (.bl false)) => .ok (.d (.bl false)) e1
    | _ => .no)) E hq fun v H1 Z1 e d s E1 r q1 => ⟨Z1, e, d, E1, r, q1⟩)) fun v s1 ⟨x, H1, I1, r1, Z1, e, dx, E1, rx, q1⟩ => ?_) hm
  refine chain_link (thn (hb.run pins s1 σ H1 _ I1 (useR (P := fun y H2 => ∃ Z2 e2 dy, EOk T G B Z2 H2 σ e2 ∧ Rep T Z2 x dx ∧ Rep T Z2 y dy ∧ PR T W G B Z2 σ Q (match p dx dy with
    | some (.d (.bl true)) => (h e2).bind fun z e3 => ofOp q dy z e3
    | some (.d (.bl false)) => .ok (.d (.bl false)) e2
    | _ => .no)) E1 q1 fun v H2 Z2 e2 d s2 E2 r q2 => ⟨Z2, e2, d, E2, rx.mono s2, r, q2⟩)) fun u s2 ⟨y, H2, I2, r2, Z2, e2, dy, E2, rx2, ry, q2⟩ => ?_)
  cases hp : p dx dy with
  | none => rw [hp] at q2; exact q2.elim
  | some rv =>
    rw [hp] at q2
    cases rv with
    | o o => exact q2.elim
    | d d =>
      cases d with
      | bl k =>
        refine thn (ho pins s2 σ H2 x y v u (fun z H3 => z = .bl k ∧ ∃ Z3, Same Z2 Z3 ∧ EOk T G B Z3 H3 σ e2) G B Z2 σ e2 dx dy _ I2 r1 r2 E2 rx2 ry hp fun w H' Z' s' E' r' => ⟨by cases r'; rfl, Z', s', E'⟩) fun d s3 ⟨z, H3, I3, r3, ez, Z3, ss3, E3⟩ => ?_
        subst ez
        cases r3
        refine wpAny_truthy_bool ?_
        cases k with
        | false => exact ite_ff ⟨.bl false, H3, I3, rfl, q2 _ H3 Z3 ss3 E3 (.bl _)⟩
        | true =>
          dsimp only at q2
          refine ite_tt (chain_last (thn (hc.run pins s3 σ H3 _ I3 (useR (P := fun z H4 => ∃ Z4 e4 dz, EOk T G B Z4 H4 σ e4 ∧ Rep T Z4 y dy ∧ Rep T Z4 z dz ∧ PR T W G B Z4 σ Q (ofOp q dy dz e4)) E3 (PR.mono ss3 q2) fun v H4 Z4 e4 d s4 E4 r q4 => ⟨Z4, e4, d, E4, ry.mono (ss3.trans s4), r, q4⟩)) fun w' s4 ⟨z', H4, I4, r4, Z4, e4, dz, E4, ry4, rz, q4⟩ => ?_))
          exact OpE.of ho' pins s4 σ H4 y z' u w' Q G B Z4 e4 dy dz I4 r2 r4 E4 ry4 rz q4
      | _ => exact q2.elim
/-! ### isinstance -/
def IsiF (K : PySem.W.Frag) (T : Tb) (us : List Value) (M : List (Nat × Bool)) : Prop := ∀ n b, M.lookup n = some b → n ≠ 6 ∧ PySem.W.kitAny K (kTy T n) us = some b ∧ ∀ c, n = 10 + c → ClsI K T c ∧ Cls K (T.cl c)
theorem isi_0 {K : PySem.W.Frag} {us : List Value} : IsiF K T us [] := fun n b h => by simp at h
theorem isi_c {K : PySem.W.Frag} {us : List Value} {M : List (Nat × Bool)} {n : Nat} {b : Bool} (h : PySem.W.kitAny K (kTy T n) us = some b) (r : IsiF K T us M) (h6 : n < 6 := by decide) : IsiF K T us ((n, b) :: M) := fun n' b' q => by
  rw [List.lookup_cons] at q
  cases z : n' == n with
  | true =>
    rw [z] at q; cases q
    have := eq_of_beq z
    subst this
    exact ⟨by omega, h, fun c e => by omega⟩
  | false => rw [z] at q; exact r n' b' q
theorem isi_o {K : PySem.W.Frag} {us : List Value} {M : List (Nat × Bool)} {c : Nat} {b : Bool} (CI : ClsI K T c) (cl : Cls K (T.cl c)) (h : PySem.W.kitAny K (.ref (T.cl c)) us = some b) (r : IsiF K T us M) : IsiF K T us ((10 + c, b) :: M) := fun n' b' q => by
  rw [List.lookup_cons] at q
  cases z : n' == 10 + c with
  | true =>
    rw [z] at q; cases q
    have := eq_of_beq z
    subst this
    refine ⟨by omega, ?_, fun c' e => ?_⟩
    · rw [Nat.add_comm]; exact h
    · have : c' = c := by omega
      subst this; exact ⟨CI, cl⟩
  | false => rw [z] at q; exact r n' b' q
def cIsi (M : List (Nat × Bool)) (f : Env' → R) : Env' → R := fun env => (f env).bind fun d e => match M.lookup (kd d) with | some b => .ok (.d (.bl b)) e | none => .no
theorem kitAny_one {K : PySem.W.Frag} {t u : Value} {b : Bool} (h : PySem.W.kitAny K t [u] = some b) : PySem.W.kitOne K t u = some b := by
  unfold PySem.W.kitAny at h
  split at h
  · rename_i e; cases h; exact e
  · rename_i e; cases h; exact e
  · cases h
/-- isinstance(e, C) -/
theorem se_isi {M : List (Nat × Bool)} {v : V} {u : Value} (hT : X.K = T.K) (hM : IsiF X.K T [u] M) (hv : ClsV v u) (hm : X.mg "isinstance" = none) (ha : SE X T W a f) (hb : PE X b (tC v)) (hg : Gl X "isinstance" := by rfl)
    (he : starEach [a, b] X.env = (false, eval a X.env) :: starEach [b] X.env := by rfl) (he2 : starEach [b] X.env = (false, eval b X.env) :: starEach [] X.env := by rfl) (hpl : (backTo pos (starEach [b] X.env)).any (·.1) = false := by rfl)
    (hbt : bootBuiltins "isinstance" = some (.builtin "isinstance") := by decide +kernel) : SE X T W (.Call (.Name "isinstance" p) [a, b] [] pos) (cIsi M f) := by
  refine PE.weak (pe_callB call_isi hg hm hbt (pa_cons ha (pa_cons hb pa_nil he2) he) (he := he) (hpl := hpl)) fun σ H Q ⟨G, B, Z, env, E, q⟩ => ?_
  refine useR E q fun w H1 Z1 e d s E1 r q1 => ?_
  cases hl : M.lookup (kd d) with
  | none => rw [hl] at q1; exact q1.elim
  | some k =>
    rw [hl] at q1
    obtain ⟨h6, hk, hc⟩ := hM _ _ hl
    exact ⟨w, v, _, u, k, rfl, hv, ty_rep hT E1.sub r h6 hc, kitAny_one hk, q1 _ H1 Z1 (Same.refl _) E1 (.bl _)⟩
def tVs : List V → TA
  | [] => tNil
  | v :: vs => tCons (tC v) (tVs vs)
theorem tVs_at {σ : St} {H : Hp} : ∀ {vs : List V} {Q : List V → Hp → Prop}, Q vs H → tVs vs σ H Q
  | [], Q, h => h
  | v :: vs, Q, h => tVs_at (vs := vs) h
/-- isinstance(e, (C, D, ..)) -/
theorem se_isiT {M : List (Nat × Bool)} {cs : List V} {us : List Value} {bs : List Expr} {n : Nat} {p2 : Pos} (hT : X.K = T.K) (hM : IsiF X.K T us M) (hv : Paired ClsV cs us) (hm : X.mg "isinstance" = none) (ha : SE X T W a f) (hb : PA X bs (tVs cs)) (hcs : cs.length ≤ 16777216 := by decide) (hg : Gl X "isinstance" := by rfl)
    (he : starEach [a, .Tuple bs n p2] X.env = (false, eval a X.env) :: starEach [.Tuple bs n p2] X.env := by rfl) (he2 : starEach [.Tuple bs n p2] X.env = (false, eval (.Tuple bs n p2) X.env) :: starEach [] X.env := by rfl) (hpl : (backTo pos (starEach [.Tuple bs n p2] X.env)).any (·.1) = false := by rfl)
    (hbt : bootBuiltins "isinstance" = some (.builtin "isinstance") := by decide +kernel) : SE X T W (.Call (.Name "isinstance" p) [a, .Tuple bs n p2] [] pos) (cIsi M f) := by
  refine PE.weak (pe_callB call_isiT hg hm hbt (pa_cons ha (pa_cons (pe_tup hb) pa_nil he2) he) (he := he) (hpl := hpl)) fun σ H Q ⟨G, B, Z, env, E, q⟩ => ?_
  refine useR E q fun w H1 Z1 e d s E1 r q1 => tVs_at ⟨by rw [SZ_eq]; exact hcs, fun tp htp => ?_⟩
  cases hl : M.lookup (kd d) with
  | none => rw [hl] at q1; exact q1.elim
  | some k =>
    rw [hl] at q1
    obtain ⟨h6, hk, hc⟩ := hM _ _ hl
    have E2 := E1.new htp (o := .tup cs)
    exact ⟨w, tp, cs, _, us, k, rfl, upd_same, hv, ty_rep hT E2.sub r h6 hc, hk, q1 _ _ Z1 (Same.refl _) E2 (.bl _)⟩
/-! ### a property -/
def cProp (c : Nat) (φ : Fn) (f : Env' → R) : Env' → R := fun env => (f env).bind fun d e => match d with
  | .obj c' xs => if c' = c then (match callR φ [] [.d (.obj c' xs)] e with | .ok r e' => .ok r e' | _ => .no) else .no
  | _ => .no
theorem se_prop {c : Nat} {pr : Addr} (CF : ClsF X.K T c) (hp : PropOf X.K (T.cl c) m pr fx) (F : FnC X.prog X.w X.K X.mg X.base T k φ [] fx) (hr : Room (k + 1) X.A) (ha : SE X T W a f) (hb : attributeBase a m X.env (eval a X.env) = eval a X.env := by rfl) :
    SE X T W (.Attribute a m pos) (cProp c φ f) := by
  obtain ⟨fd, ps, dvs, ds, F1, hb', hd, dfl⟩ := F.ex
  refine PE.weak (pe_prop (E := fun _ _ _ => False) ha CF.cl hp F1 hr hb' hd (fun pins σ H s e s' I c => by
    obtain ⟨_, _, _, _, _, _, _, _, _, _, _, _, z⟩ := c
    exact z.elim) hb) fun σ H Q ⟨G, B, Z, env, E, q⟩ => ?_
  refine useR E q fun v H1 Z1 e d s E1 r q1 => ?_
  cases r with
  | @obj a dx vs c' ds' h n rs =>
    dsimp only at q1
    by_cases hc : c' = c
    · subst hc
      rw [if_pos rfl] at q1
      refine ⟨a, dx, _, rfl, E1.sub _ _ h, ?_⟩
      refine call_sp (W := fun _ _ _ _ => False) (vs := [.ref a]) (avs := [.d (.obj c' ds')]) dfl E1 ⟨.obj h n rs, True.intro⟩ ?_
      cases hcr : callR φ [] [.d (.obj c' ds')] e with
      | no => rw [hcr] at q1; exact q1.elim
      | ex x e' => rw [hcr] at q1; exact q1.elim
      | ok r e' => rw [hcr] at q1; exact q1
    · rw [if_neg hc] at q1; exact q1.elim
  | _ => exact q1.elim
end
end L2.S

set_option Elab.async false
set_option linter.all false
set_option maxRecDepth 100000
set_option maxHeartbeats 4000000
namespace L2.S
open PySem PySem.Spec PyProof.Rows
section
variable {X : Cx} {T : Tb} {W : WX} {a b c e : Expr} {es : List Expr} {f g h : Env' → R} {fa : Env' → RA} {pos p apos : Pos} {k : Nat} {φ : Fn} {x m : Str} {fx : Addr}
theorem st_ch {op op' : CmpOp} {p q : D → D → Option RV} (hT : X.K = T.K) (ho : Op2 X T (compareOp op) p) (ho' : Op2 X T (compareOp op') q) (ha : SE X T W a f) (hb : SE X T W b g) (hc : SE X T W c h)
    (hm : lastMarks [op, op'] [b, c] = false := by with_unfolding_all rfl) : ST X T W (.Compare a [op, op'] [b, c] pos) (cTr (cCh p q f g h)) := by
  refine ⟨fun pins s σ H Q I h0 => ?_⟩
  have hq' : tX T W (cCh p q f g h) σ H fun v H1 => ∃ k, TruV X.K v H1 k ∧ Q k H1 := by
    obtain ⟨G, B, Z, env, E, q⟩ := h0
    refine useT E q fun v H1 Z1 e d s E1 r q1 => ?_
    cases h : truthD d with
    | none => rw [h] at q1; exact q1.elim
    | some b =>
      rw [h] at q1
      exact ⟨b, tru_rep hT E1 r h, q1 H1 Z1 (Same.refl _) E1⟩
  obtain ⟨G, B, Z, env, E, hq⟩ := hq'
  refine isTrue_chain (thn (ha.run pins s σ H _ I (useR (P := fun x H1 => ∃ Z1 e dx, EOk T G B Z1 H1 σ e ∧ Rep T Z1 x dx ∧ PR T W G B Z1 σ (fun v H1 => ∃ k, TruV X.K v H1 k ∧ Q k H1) ((g e).bind fun y e1 => match p dx y with
    | some (.d (.bl true)) => (h e1).bind fun z e2 => ofOp q y z e2
    | some (.d (.bl false)) => .ok (.d (.bl false)) e1
    | _ => .no)) E hq fun v H1 Z1 e d s E1 r q1 => ⟨Z1, e, d, E1, r, q1⟩)) fun v s1 ⟨x, H1, I1, r1, Z1, e, dx, E1, rx, q1⟩ => ?_) hm
  refine test_link (thn (hb.run pins s1 σ H1 _ I1 (useR (P := fun y H2 => ∃ Z2 e2 dy, EOk T G B Z2 H2 σ e2 ∧ Rep T Z2 x dx ∧ Rep T Z2 y dy ∧ PR T W G B Z2 σ (fun v H1 => ∃ k, TruV X.K v H1 k ∧ Q k H1) (match p dx dy with
    | some (.d (.bl true)) => (h e2).bind fun z e3 => ofOp q dy z e3
    | some (.d (.bl false)) => .ok (.d (.bl false)) e2
    | _ => .no)) E1 q1 fun v H2 Z2 e2 d s2 E2 r q2 => ⟨Z2, e2, d, E2, rx.mono s2, r, q2⟩)) fun u s2 ⟨y, H2, I2, r2, Z2, e2, dy, E2, rx2, ry, q2⟩ => ?_)
  cases hp : p dx dy with
  | none => rw [hp] at q2; exact q2.elim
  | some rv =>
    rw [hp] at q2
    cases rv with
    | o o => exact q2.elim
    | d d =>
      cases d with
      | bl k =>
        refine thn (ho pins s2 σ H2 x y v u (fun z H3 => z = .bl k ∧ ∃ Z3, Same Z2 Z3 ∧ EOk T G B Z3 H3 σ e2) G B Z2 σ e2 dx dy _ I2 r1 r2 E2 rx2 ry hp fun w H' Z' s' E' r' => ⟨by cases r'; rfl, Z', s', E'⟩) fun d s3 ⟨z, H3, I3, r3, ez, Z3, ss3, E3⟩ => ?_
        subst ez
        cases r3
        refine wpAny_truthy_bool ?_
        cases k with
        | false =>
          obtain ⟨k', ek, q3⟩ := q2 _ H3 Z3 ss3 E3 (.bl _)
          cases (show k' = false from ek)
          exact ite_ff ⟨H3, I3, q3⟩
        | true =>
          dsimp only at q2
          refine ite_tt (test_last (thn (hc.run pins s3 σ H3 _ I3 (useR (P := fun z H4 => ∃ Z4 e4 dz, EOk T G B Z4 H4 σ e4 ∧ Rep T Z4 y dy ∧ Rep T Z4 z dz ∧ PR T W G B Z4 σ (fun v H1 => ∃ k, TruV X.K v H1 k ∧ Q k H1) (ofOp q dy dz e4)) E3 (PR.mono ss3 q2) fun v H4 Z4 e4 d s4 E4 r q4 => ⟨Z4, e4, d, E4, ry.mono (ss3.trans s4), r, q4⟩)) fun w' s4 ⟨z', H4, I4, r4, Z4, e4, dz, E4, ry4, rz, q4⟩ => ?_))
          exact thn (OpE.of ho' pins s4 σ H4 y z' u w' _ G B Z4 e4 dy dz I4 r2 r4 E4 ry4 rz q4) fun d' s5 ⟨z2, H5, I5, r5, q5⟩ => tru_ok pins s5 σ H5 z2 d' Q I5 r5 q5
      | _ => exact q2.elim
/-! ### raise C('text') -/
structure ExcF (X : Cx) (T : Tb) (c : Nat) : Prop where
  ex : ∃ B n i bm, ExcBaseFacts B n i bm ∧ PySem.W.excIn X.K (T.ec c) bm n = true
  kp : PySem.W.keepIn X.K (.ref (T.ec c)) = true
  ra : Raises X (.ref (T.ec c))
  nf : T.ef c = []
def sRaise (c : Nat) : Env' → RS := fun e => .ex ⟨c, []⟩ e
theorem ss_raise {c : Nat} {m : Str} {j : Nat} {p2 p3 : Pos} (hc : X.calm = true) (tk : Takes X W) (F : ExcF X T c) (hm : X.mg x = some (.ref (T.ec c))) (hg : Gl X x := by rfl) (hdb : (x == ("__debug__" : Str)) = false := by decide) :
    SS X T W (.Raise (some (.Call (.Name x p) [.Constant (.str m) j p2] [] p3)) none pos) (sRaise c) := by
  obtain ⟨B, n, i, bm, F1, F2⟩ := F.ex
  refine PS.weak (ps_raise hc tk (pmk_own F1 F2 hm F.kp F.ra hg hdb)) fun K σ H ⟨G, B, Z, env, E, q⟩ => ?_
  exact q _ _ σ H Z (Same.refl _) E ⟨rfl, .inl ⟨F.nf, rfl, rfl⟩⟩
/-! ### try -/
def ExmF (K : PySem.W.Frag) (T : Tb) (c : Value) (M : List (Nat × Bool)) : Prop := ∀ n b, M.lookup n = some b → PySem.W.exmOne K (.ref (T.ec n)) c = some b
theorem exm_0 {K : PySem.W.Frag} {c : Value} : ExmF K T c [] := fun n b h => by simp at h
theorem exm_c {K : PySem.W.Frag} {c : Value} {M : List (Nat × Bool)} {n : Nat} {b : Bool} (h : PySem.W.exmOne K (.ref (T.ec n)) c = some b) (r : ExmF K T c M) : ExmF K T c ((n, b) :: M) := fun n' b' q => by
  rw [List.lookup_cons] at q
  cases z : n' == n with
  | true =>
    rw [z] at q; cases q
    have := eq_of_beq z
    subst this
    exact h
  | false => rw [z] at q; exact r n' b' q
/-- try: t / except C: u -/
def sTry (M : List (Nat × Bool)) (t : Env' → RS) (u : Env' → RS) : Env' → RS := fun env => match t env with
  | .ex x e => (match M.lookup x.c with | some true => (match u e with | .ex _ _ => .no | r => r) | some false => .ex x e | none => .no)
  | r => r
theorem ss_try {M : List (Nat × Bool)} {body suite : List Stmt} {b₀ : Stmt} {c : Value} {np pos' : Pos} {t u : Env' → RS} (hM : ExmF X.K T c M) (hn : Names X x c) (tk : Takes X W)
    (hb : ∀ (W' : WX) (pn : List (Addr × Obj)) (xe : Value → Shared → Prop), Takes (X.tr pn xe) W' → PassesOwn (model X.prog X.w) X.A X.env xe → SSs (X.tr pn xe) T W' body t)
    (hsu : ∀ (a : Addr) (pn : List (Addr × Obj)), SSs (X.suite a pn) T W0 (b₀ :: suite) u) (hs : X.stack = X.env :: X.outer := by rfl) (hf : X.env.frame = some X.env.locals := by rfl) :
    SS X T W (.Try body [.ExceptHandler (some (.Name x np)) none (b₀ :: suite) pos'] [] [] pos) (sTry M t u) := by
  refine PS.weak (ps_try_only (Wout := W) (tb := fun W' => tXS T W' t) (ts := fun _ _ _ => tXS T W0 u) hs hf hn tk hb (fun a oe cls d pn _ _ => hsu a ((a, oe) :: pn))) fun K σ H ⟨G, B, Z, env, E, q⟩ => ⟨G, B, Z, env, E, ?_⟩
  unfold sTry at q
  cases ht : t env with
  | ex y e =>
    rw [ht] at q
    dsimp only at q
    cases hl : M.lookup y.c with
    | none => rw [hl] at q; exact q.elim
    | some k =>
      rw [hl] at q
      intro cls d σ' H' Z' s' E' r'
      obtain ⟨ec, r'⟩ := r'
      subst ec
      refine ⟨k, hM _ _ hl, fun hk a ha => ?_, fun hk => ?_⟩
      · subst hk
        refine ⟨G, B, Z', e, E', ?_⟩
        dsimp only at q
        cases hu : u e with
        | ex y2 e2 => rw [hu] at q; exact q.elim
        | no => rw [hu] at q; exact q.elim
        | nx e2 => rw [hu] at q; exact PRS.mono s' (r := .nx e2) q
        | bk e2 => rw [hu] at q; exact PRS.mono s' (r := .bk e2) q
        | ct e2 => rw [hu] at q; exact PRS.mono s' (r := .ct e2) q
        | rt r e2 => rw [hu] at q; exact PRS.mono s' (r := .rt r e2) q
      · subst hk
        exact q _ d σ' H' Z' s' E' ⟨rfl, r'⟩
  | _ => rw [ht] at q; exact q
end
end L2.S

set_option Elab.async false
set_option linter.all false
set_option maxRecDepth 100000
set_option maxHeartbeats 4000000
namespace L2.S
open PySem PySem.Spec PyProof.Rows
/-! ### // of any size -/
theorem ns_none {K : PySem.W.Frag} {h : Heap} {a : Addr} {m : Str → Option Value} {n : Str} (X : K.In h) (G : h.Ns a m) (e : PySem.W.nsIn K a n = some none) : m n = none := by
  obtain ⟨o, es, ep, ho, hd, _, hf⟩ := G
  unfold PySem.W.nsIn at e
  split at e
  · rename_i c d es' n' sl q
    have := X _ _ q
    rw [ho] at this
    cases this
    cases hd
    split at e
    · cases e
    · rename_i he
      rw [← hf]
      unfold nsFind PySem.findBy
      rw [← Array.find?_toList, he]
      rfl
  · cases e
/-- what stands in the written part for a division of great ints -/
structure SeerK (K : PySem.W.Frag) : Prop where
  c1 : PySem.W.nsIn K cStatics "sys.audit-hooks" = some none
  c2 : PySem.W.nsIn K cStatics "sys.dict" = some none
  m1 : PySem.W.nsIn K sysModules "_pylong" = some none
  m2 : ∃ c d es n sl, K.lookup sysModules = some ⟨c, d, .dict es n, sl⟩ ∧ (es.toList.all fun e => match e.key with | .str _ _ => true | _ => false) = true
  mn : ∃ bm ob sl, PySem.W.nsIn K mainGlobals "__builtins__" = some (some (.ref bm)) ∧ K.lookup bm = some ⟨.type "module", some builtinsNs, ob, sl⟩
theorem SeerK.no {K : PySem.W.Frag} {mg : Str → Option Value} {h : Heap} (S : SeerK K) (X : K.In h) (hl : h.NoLimit) (G : h.Ns mainGlobals mg) (hb : ∃ mb, h.Ns builtinsNs mb ∧ ∀ x : Str, x ≠ "__name__" → mb x = bootBuiltins x) : h.NoSeer where
  statics := let ⟨mc, n, _⟩ := hl; ⟨mc, n, ns_none X n S.c1, ns_none X n S.c2⟩
  mods := by
    obtain ⟨c, d, es, n, sl, e, k⟩ := S.m2
    have e' := X _ _ e
    have q : h.isNs sysModules = true := by
      unfold Heap.isNs
      rw [e']
      dsimp only
      rw [← Array.all_toList]
      exact k
    have N := Heap.Ns.of_isNs q
    exact ⟨_, N, ns_none X N S.m1⟩
  imp := hb
  main := by
    obtain ⟨bm, ob, sl, e1, e2⟩ := S.mn
    exact ⟨mg, bm, _, G, PySem.W.mg_of X G e1, X _ _ e2, rfl, rfl⟩
theorem seer_mk {K : PySem.W.Frag} {bm : Addr} {ob : Data} {sl : Array (Option Value)} {c : Value} {d : Option Addr} {es : Array DictEntry} {n : Nat} {sl2 : Array (Option Value)} (c1 : PySem.W.nsIn K cStatics "sys.audit-hooks" = some none) (c2 : PySem.W.nsIn K cStatics "sys.dict" = some none) (m1 : PySem.W.nsIn K sysModules "_pylong" = some none)
    (m2 : K.lookup sysModules = some ⟨c, d, .dict es n, sl2⟩) (mk : (es.toList.all fun e => match e.key with | .str _ _ => true | _ => false) = true) (b1 : PySem.W.nsIn K mainGlobals "__builtins__" = some (some (.ref bm))) (b2 : K.lookup bm = some ⟨.type "module", some builtinsNs, ob, sl⟩) : SeerK K :=
  ⟨c1, c2, m1, ⟨_, _, _, _, _, m2, mk⟩, _, _, _, b1, b2⟩
/-- the running frame -/
structure Seer (X : Cx) : Prop where
  k : SeerK X.K
  tree : X.prog.given.tree = none
  top : ∃ env l, X.stack = env :: l ∧ env.scope.isGenerator = false ∧ env.scope.isCoroutine = false ∧ env.builtins = builtinsNs ∧ env.globals = mainGlobals
  dep : Room 40 X.A
section
variable {X : Cx} {T : Tb} {W : WX} {a b c e : Expr} {es : List Expr} {f g h : Env' → R} {fa : Env' → RA} {pos p apos : Pos} {k : Nat} {φ : Fn} {x m : Str} {fx : Addr}
theorem op_div (S : Seer X) : OpR X (binaryOp .FloorDiv) (rI (fun _ j => j ≠ 0) fun i j => .int (i.fdiv j)) := by
  intro pins s σ H x y v u Q I rx ry h
  have key : PylongRoom (model X.prog X.w) X.A s := by
    obtain ⟨env, l, hs, h1, h2, h3, h4⟩ := S.top
    have hk := I.bk
    have nl := I.ok.mod.nolimit.keeps hk
    have ns : s.heap.NoSeer := (S.k.no I.ok.mod.kin I.ok.mod.nolimit I.ok.mod.glob I.ok.mod.blt).keeps hk
    have fr : X.A.frames = some (env :: l) := by rw [I.ok.frames, hs]
    have dp : X.A.depth + Builtin.pylongFrames < recursionLimit := by have := S.dep.dp; show X.A.depth + 100 < _; omega
    exact PylongRoom.of nl dp (SeerAt.of ns S.tree fr h1 h2 h3 h4)
  obtain ⟨i, j, rfl, rfl, hc, q⟩ := h
  obtain ⟨t, rfl⟩ := rx
  obtain ⟨t', rfl⟩ := ry
  exact floordiv_int hc ⟨.int (i.fdiv j), H, I.tok _, ⟨_, rfl⟩, q⟩ (.inr key)
def pDivG : D → D → Option RV := fun x y => match x, y with | .int i, .int j => if j = 0 then none else some (.d (.int (i.fdiv j))) | _, _ => none
theorem o_div (S : Seer X) : Op2 X T (binaryOp .FloorDiv) pDivG := op_flat (op_div S) fun G B Z H σ env x y dx dy w Q E r1 r2 e c => by
  unfold pDivG at e
  split at e
  · rename_i i j
    split at e
    · cases e
    · rename_i hj
      cases e
      cases r1
      cases r2
      exact ⟨i, j, rfl, rfl, hj, c _ H Z (Same.refl _) E (.int _)⟩
  · cases e
/-! ### a, b = e, f -/
def sPar2 (i j : Nat) (fa : Env' → RA) : Env' → RS := fun env => match fa env with
  | .ok as e => (match avD as with
    | some [x, y] => if canSet e i && canSet (e.set i (.val x)) j then .nx ((e.set i (.val x)).set j (.val y)) else .no
    | _ => .no)
  | .ex x e => .ex x e
  | .no => .no
theorem ss_par2 {i j : Nat} {x y : Str} {px py pt : Pos} {kt k2 pt2} (hc : X.calm = true) (hN : X.N.Nodup) (ha : SA X T W [a, b] fa) (hi : X.N[i]? = some x := by rfl) (hj : X.N[j]? = some y := by rfl) (hij : i ≠ j := by decide)
    (hx : X.env.scope.names.lookup x = some .local := by rfl) (hy : X.env.scope.names.lookup y = some .local := by rfl)
    (hw : swappedStores [.Tuple [.Name x px, .Name y py] kt pt] (.Tuple [a, b] k2 pt2) X.env = pure (some [x, y]) := by rfl)
    (hs : swapsWithSole [.Tuple [.Name x px, .Name y py] kt pt] (.Tuple [a, b] k2 pt2) pos.line X.env = pure false := by rfl) :
    SS X T W (.Assign [.Tuple [.Name x px, .Name y py] kt pt] (.Tuple [a, b] k2 pt2) pos) (sPar2 i j fa) := by
  refine PS.weak (ps_par hc hN hi hj hij hx hy ha hw hs) fun K σ H ⟨G, B, Z, env, E, q⟩ => ?_
  show tXA T W fa σ H _
  refine ⟨G, B, Z, env, E, ?_⟩
  unfold sPar2 at q
  cases hf : fa env with
  | no => rw [hf] at q; exact q.elim
  | ex x e => rw [hf] at q; exact fun cls d H' Z' s' E' r' => q cls d σ H' Z' s' E' r'
  | ok as e =>
    rw [hf] at q
    dsimp only at q
    intro vs H1 Z1 s1 E1 r1
    split at q
    · rename_i dx dy hd
      have rs := r1.reps hd
      cases rs with
      | cons ra rs =>
        cases rs with
        | cons rb rs =>
          cases rs
          split at q
          · rename_i hcs
            rw [Bool.and_eq_true] at hcs
            have E2 := E1.store (r := .d dx) hcs.1 ra
            have E3 := E2.store (r := .d dy) hcs.2 rb
            exact ⟨_, _, rfl, q _ H1 Z1 s1 E3⟩
          · exact q.elim
    · exact q.elim
end
end L2.S

set_option Elab.async false
set_option linter.all false
set_option maxRecDepth 100000
set_option maxHeartbeats 4000000
namespace L2.S
open PySem PySem.Spec PyProof.Rows
/-- the def's function: its body where the number of arguments is right -/
def fnF (g : Env' → RS) (n m : Nat) : Fn := fun as => if as.length = m then bodyF g n as else .no
theorem fnF_hn {g : Env' → RS} {n m : Nat} : ∀ as, fnF g n m as ≠ .no → as.length = m ∧ bodyF g n as = fnF g n m as := fun as h => by
  unfold fnF at h ⊢
  by_cases q : as.length = m
  · rw [if_pos q]; exact ⟨q, rfl⟩
  · rw [if_neg q] at h; exact (h rfl).elim
section
variable {P : Program} {w : World} {K : PySem.W.Frag} {mg : Str → Option Value} {base : Heap} {T : Tb} {x qual : Str} {st : Stmt} {f : Addr} {fd : FuncData} {N ps : List Str} {k : Nat} {g : Env' → RS} {dvs : List V} {kws : List (Str × V)}
/-- THE RULE for a def -/
theorem fn_d {n m : Nat} (F : FunD K x qual (defArgs st) (defBody st) (defScope st) dvs kws f fd) (S : FnScope N ps (defScope st))
    (body : ∀ (cdv : Value) (A : Around) (outer : List Env) (s : Shared) (H : Hp) (E : XK), Room k (A.deeper (envOfC qual (defScope st) s.heap.objs.size f cdv)) →
      SSs (cxOf (L2.CX P w) P w K mg base N qual (defScope st) f cdv A outer s H E) T (fun cls d _ H => E cls d H) (defBody st) g) (hn : N.length = n := by rfl) (hm : ps.length = m := by rfl) :
    FnOk P w K mg base (L2.CX P w) (k + 1) f fd ps (sp T (fnF g n m)) := by
  subst hn; subst hm
  have hpl : ps.length ≤ N.length := by have := congrArg List.length S.pre; rw [List.length_take] at this; omega
  refine F.ok S (fun vs H Q E ⟨Z, as, s, A, q⟩ => ?_) (fun cdv A outer s H vs Q E hr ⟨Z, as, ss, AA, q⟩ => ⟨_, body cdv A outer s H E hr, ?_⟩)
  · rw [A.len]
    refine (fnF_hn (g := g) (n := N.length) as fun z => ?_).1
    rw [z] at q
    exact q
  · have hno : fnF g N.length ps.length as ≠ .no := fun z => by rw [z] at q; exact q
    obtain ⟨hl, hb⟩ := fnF_hn as hno
    refine ⟨⟨H, Z⟩, lentA vs as, Z, _, EOk.start ss AA (by rw [hl]; exact hpl), ?_⟩
    rw [← hb] at q
    unfold bodyF at q
    cases hg : g (as ++ List.replicate (N.length - as.length) .un) with
    | rt r e =>
      rw [hg] at q
      intro v σ' H' Z' s' E' r'
      refine q v H' Z' (E'.after AA s') ?_
      cases r with
      | d d => exact r'
      | o o =>
        obtain ⟨a, h, e1, e2, e3, e4, e5, _⟩ := r'
        exact ⟨a, h, e1, e2, e3, e4, e5⟩
    | nx e =>
      rw [hg] at q
      intro σ' H' Z' s' E'
      exact q .non H' Z' (E'.after AA s') .non
    | ex x e =>
      rw [hg] at q
      intro c d σ' H' Z' s' E' r'
      exact q c d H' Z' (E'.after AA s') r'
    | bk e => rw [hg] at q; exact q.elim
    | ct e => rw [hg] at q; exact q.elim
    | no => rw [hg] at q; exact q.elim
/-- a def of which nothing is promised (a recursion's ground) -/
theorem fn_no (F : FunD K x qual (defArgs st) (defBody st) (defScope st) dvs kws f fd) (ps : List Str) : FnOk P w K mg base (L2.CX P w) k f fd ps (sp T (fun _ => .no)) :=
  ⟨fun vs H Q E ⟨Z, as, s, A, q⟩ => q.elim, fun _ _ _ _ _ _ _ _ _ _ _ _ _ ⟨Z, as, s, A, q⟩ => q.elim⟩
theorem fnc_all {φ : Fn} (F : FunD K x qual (defArgs st) (defBody st) (defScope st) [] kws f fd) (ok : FnOk P w K mg base (L2.CX P w) k f fd ps (sp T φ))
    (h : ∀ (kV doc pm : Value) (an : Option Addr) (cdv ct : Value) (us : List Value), us.length = ps.length → bindArgs (PySem.W.fnOf x qual (defArgs st) (defBody st) (defScope st) .none kV doc pm an cdv ct) ⟨us, []⟩ = pure (ps.zip us)) : FnC P w K mg base T k φ [] f :=
  ⟨⟨fd, ps, [], [], ok, F.bindsN h, .nil, fun _ => .nil⟩, F.kp⟩
theorem fnc_dfl {φ : Fn} {dds : List D} (F : FunD K x qual (defArgs st) (defBody st) (defScope st) dvs kws f fd) (ok : FnOk P w K mg base (L2.CX P w) k f fd ps (sp T φ)) (n j : Nat) (hd : dvs ≠ []) (hn : n + (dvs.length - j) = ps.length) (dfl : Dfl T (dvs.drop j) dds)
    (h : ∀ (T : Addr) (kV doc pm : Value) (an : Option Addr) (cdv ct : Value) (us its : List Value), us.length = n → its.length = dvs.length →
      ∃ k, bindArgs (PySem.W.fnOf x qual (defArgs st) (defBody st) (defScope st) (.ref T) kV doc pm an cdv ct) ⟨us, []⟩ = seqItems? (.ref T) >>= k ∧ k (some its.toArray) = pure (ps.zip (us ++ its.drop j))) : FnC P w K mg base T k φ dds f := by
  obtain ⟨ds, hv, hb⟩ := F.binds1 n j hd hn h
  exact ⟨⟨fd, ps, _, ds, ok, hb, hv, dfl⟩, F.kp⟩
end
/-- a def from what the written part holds -/
theorem fun0 {K : PySem.W.Frag} {x qual : Str} {st : Stmt} {f : Addr} {oc : Value} {od an : Option Addr} {osl : Array (Option Value)} {kV doc pm cdv ct : Value} (l : K.lookup f = some ⟨oc, od, .func (PySem.W.fnOf x qual (defArgs st) (defBody st) (defScope st) .none kV doc pm an cdv ct), osl⟩)
    (c : PySem.W.codeIn K cdv qual = true) (k : PySem.W.keepIn K (.ref f) = true) : ∃ fd, FunD K x qual (defArgs st) (defBody st) (defScope st) [] [] f fd := ⟨_, ⟨oc, od, .none, kV, doc, pm, an, cdv, ct, osl, rfl, l, c, .inl ⟨rfl, rfl⟩, .inl rfl⟩, k⟩
theorem fun1 {K : PySem.W.Frag} {x qual : Str} {st : Stmt} {f D : Addr} {oc oc2 : Value} {od od2 an : Option Addr} {osl osl2 : Array (Option Value)} {kV doc pm cdv ct : Value} {its : List Value} {n : Nat} {dvs : List V} (l : K.lookup f = some ⟨oc, od, .func (PySem.W.fnOf x qual (defArgs st) (defBody st) (defScope st) (.ref D) kV doc pm an cdv ct), osl⟩)
    (c : PySem.W.codeIn K cdv qual = true) (k : PySem.W.keepIn K (.ref f) = true) (l2 : K.lookup D = some ⟨oc2, od2, .seq its.toArray n, osl2⟩) (hv : Vals dvs its) (hd : dvs ≠ []) : ∃ fd, FunD K x qual (defArgs st) (defBody st) (defScope st) dvs [] f fd := ⟨_, ⟨oc, od, .ref D, kV, doc, pm, an, cdv, ct, osl, rfl, l, c, .inr ⟨hd, D, _, its, n, rfl, l2, rfl, hv⟩, .inl rfl⟩, k⟩
end L2.S

set_option Elab.async false
set_option linter.all false
set_option maxRecDepth 100000
set_option maxHeartbeats 4000000
namespace L2.S
open PySem PySem.Spec PyProof.Rows
def kitTs (a : String) : List String → Option Bool
  | [] => some false
  | c :: r => match kitB a c with | some true => some true | some false => kitTs a r | none => none
theorem kit_tys {K : PySem.W.Frag} {a : String} : ∀ {cs : List String} {b : Bool}, kitTs a cs = some b → PySem.W.kitAny K (.type a) (cs.map .type) = some b
  | [], b, h => h
  | c :: r, b, h => by
    unfold kitTs at h
    split at h
    · rename_i e
      cases h
      exact kitAny_cons (kit_ty e) (fun z => nomatch z) fun _ => rfl
    · rename_i e
      exact kitAny_cons (kit_ty e) (fun _ => kit_tys h) (fun z => nomatch z)
    · cases h
/-- fuel enough for most -/
def sizD : D → Nat
  | .int i => i.natAbs
  | .str l => l.length
  | .tup xs => xs.length
  | .lst xs => xs.length
  | .ro xs => xs.length
  | _ => 0
def sizV : SV → Nat
  | .un => 0
  | .val d => sizD d
  | .own _ (.l xs) => xs.length
  | .own _ (.s _ _) => 0
def fuelE (e : Env') : Nat := 1 + (e.map sizV).sum
/-- the answer of a def (data), as the caller sees it -/
theorem fnF_at {g : Env' → RS} {n m : Nat} {as : List SV} (h : as.length = m) : fnF g n m as = bodyF g n as := by unfold fnF; rw [if_pos h]
end L2.S
namespace L2.S
open PySem PySem.Spec PyProof.Rows
theorem FnOkMono {P : Program} {w : World} {K : PySem.W.Frag} {mg : Str → Option Value} {base : Heap} {CX : CXT} {k j : Nat} {f : Addr} {fd : FuncData} {ps : List Str} {s : Sp} (F : FnOk P w K mg base CX k f fd ps s) (h : k ≤ j) : FnOk P w K mg base CX j f fd ps s :=
  ⟨F.len, fun A outer s H as us vs Q E hr => F.run A outer s H as us vs Q E (hr.mono h)⟩
end L2.S

set_option Elab.async false
set_option linter.all false
set_option maxRecDepth 100000
set_option maxHeartbeats 4000000
namespace L2.S
open PySem PySem.Spec PyProof.Rows
def spL (K : PySem.W.Frag) : Sp := fun vs H Q _ => ∃ (a : Addr) (ns : List Int), vs = [.ref a] ∧ SqL K H a (ns.map V.int) ∧ ns.length ≤ 63 ∧ (∀ z ∈ ns, Builtin.Int.intBits z ≤ 1048576) ∧ ∀ H', Q (.bl true) H'
theorem reps_ints {T : Tb} {Z : Hp} : ∀ ns : List Int, Reps T Z (ns.map V.int) (ns.map D.int)
  | [] => .nil
  | n :: ns => .cons (.int n) (reps_ints ns)
/-- the law's promise from its function -/
theorem spL_sp {T : Tb} {φ : Fn} (law : ∀ ns : List Int, ns.length ≤ 63 → (∀ z ∈ ns, Builtin.Int.intBits z ≤ 1048576) → ∃ outs, φ [.val (.ro (ns.map D.int))] = .ok (.d (.bl true)) outs)
    (vs : List V) (H : Hp) (Q : VK) (E : XK) (h : spL T.K vs H Q E) : sp T φ vs H Q E := by
  obtain ⟨a, ns, rfl, hs, hl, hb, q⟩ := h
  obtain ⟨outs, e⟩ := law ns hl hb
  refine ⟨H, [.val (.ro (ns.map D.int))], Same.refl _, ⟨rfl, fun i d h => ?_, fun i b o h => ?_, fun i j a n h => ?_⟩, ?_⟩
  · cases i with
    | zero => simp at h; subst h; exact ⟨.ref a, rfl, .ro hs (reps_ints ns)⟩
    | succ i => simp at h
  · cases i with
    | zero => simp at h
    | succ i => simp at h
  · obtain ⟨⟨b, o, h⟩, _⟩ := mem_lentA.mp h
    cases i with
    | zero => simp at h
    | succ i => simp at h
  · rw [e]
    intro v H' Z' Af r
    cases r
    exact q H'
theorem fnOk_weak {P : Program} {w : World} {K : PySem.W.Frag} {mg : Str → Option Value} {base : Heap} {CX : CXT} {k : Nat} {f : Addr} {fd : FuncData} {ps : List Str} {s s' : Sp} (F : FnOk P w K mg base CX k f fd ps s) (h : ∀ vs H Q E, s' vs H Q E → s vs H Q E) : FnOk P w K mg base CX k f fd ps s' :=
  ⟨fun vs H Q E x => F.len vs H Q E (h _ _ _ _ x), fun A outer s H as us vs Q E hr e0 b r x => F.run A outer s H as us vs Q E hr e0 b r (h _ _ _ _ x)⟩
theorem walk_S {l : PySem.W.OpenLaw} {k : Nat} {q : Program} {loose : List Str} {XP : (Str → Option Value) → Heap → Prop} {YP : World → Heap → Prop} {d : DefRec} {K : Params → PySem.W.Frag} {φ : Fn}
    (hn : l.most = some 63) (hdf : d.params.defaults = []) (hr : Room k callerA)
    (hY : ∀ (w : World) (h : Heap), YP w h → (K w.params).In h)
    (law : ∀ ns : List Int, ns.length ≤ 63 → (∀ z ∈ ns, Builtin.Int.intBits z ≤ 1048576) → ∃ outs, φ [.val (.ro (ns.map D.int))] = .ok (.d (.bl true)) outs)
    (F : ∀ (w : World) (mg : Str → Option Value) (fa : Addr) (h : Heap), (K w.params).In h → h.Ns mainGlobals mg → mg d.name = some (.ref fa) →
      ∃ (T : Tb) (fd : FuncData), T.K = K w.params ∧ (∀ (s : Shared) (u : Value), BindsTo s fd ⟨[u], []⟩ [("script", u)]) ∧
        ∀ base : Heap, (K w.params).In base → base.Ns mainGlobals mg → FnOk l.prog w (K w.params) mg base (L2.CX l.prog w) k fa fd ["script"] (sp T φ)) :
    PySem.W.WalkO q loose XP YP l.row.toRowW d [] (fun f vs => PySem.call f vs) := by
  refine walk_ofB (x := "script") (K := K) (CX := fun w => L2.CX l.prog w) (sp := fun w => spL (K w.params)) hn (by decide) hdf hr hY (fun w mg fa h X G e => ?_) (fun w H a ns h1 h2 h3 h4 => ⟨a, ns, rfl, h4, h1, h2, fun _ => rfl⟩) fun w H s e s' c => ?_
  · obtain ⟨T, fd, hK, hb, hF⟩ := F w mg fa h X G e
    refine ⟨fd, hb, fun base X G => fnOk_weak (hF base X G) fun vs H Q E x => spL_sp law vs H Q E ?_⟩
    rw [hK]
    exact x
  · obtain ⟨_, _, _, _, _, _, _, _, _, _, _, _, z⟩ := c
    exact z.elim
end L2.S
namespace L2.S
open PySem PySem.Spec PyProof.Rows
theorem funD_one {K : PySem.W.Frag} {x qual : Str} {p : Arguments} {b : List Stmt} {sc : Scope} {dvs : List V} {kws : List (Str × V)} {f : Addr} {fd fd2 : FuncData} (F2 : FunD K x qual p b sc dvs kws f fd2) (F : FunD K x qual p b sc dvs kws f fd) : fd2 = fd := by
  obtain ⟨_, _, _, _, _, _, _, _, _, _, _, l, _⟩ := F.ex
  obtain ⟨_, _, _, _, _, _, _, _, _, _, _, l2, _⟩ := F2.ex
  rw [l] at l2
  cases l2
  rfl
end L2.S

set_option Elab.async false
set_option linter.all false
set_option maxRecDepth 100000
set_option maxHeartbeats 4000000
namespace L2.S
/-! ### plain reckoning -/
theorem seq_nx {t u : Env' → RS} {e e' : Env'} (h : t e = .nx e') : sSeq t u e = u e' := by unfold sSeq; rw [h]
theorem seq_rt {t u : Env' → RS} {e e' : Env'} {r : RV} (h : t e = .rt r e') : sSeq t u e = .rt r e' := by unfold sSeq; rw [h]
theorem seq_ex {t u : Env' → RS} {e e' : Env'} {x : Ex} (h : t e = .ex x e') : sSeq t u e = .ex x e' := by unfold sSeq; rw [h]
theorem forL_run {h : D → Env' → Option Env'} {t : Env' → RS} (P : Nat → Env' → Prop) : ∀ (ds : List D) (k : Nat) (e : Env'), P k e →
    (∀ i d e, ds[i]? = some d → P (k + i) e → ∃ e1, h d e = some e1 ∧ ∃ e2, (t e1 = .nx e2 ∨ t e1 = .ct e2) ∧ P (k + i + 1) e2) → ∃ e', forL h t ds e = .nx e' ∧ P (k + ds.length) e'
  | [], k, e, p, _ => ⟨e, rfl, p⟩
  | d :: ds, k, e, p, st => by
    obtain ⟨e1, h1, e2, h2, p2⟩ := st 0 d e rfl p
    obtain ⟨e', h3, p3⟩ := forL_run P ds (k + 1) e2 p2 fun i d' e0 hd pe => by
      have := st (i + 1) d' e0 (by simpa using hd) (by rw [show k + (i + 1) = k + 1 + i by omega]; exact pe)
      rw [show k + (i + 1) + 1 = k + 1 + i + 1 by omega] at this
      exact this
    refine ⟨e', ?_, by rw [List.length_cons, show k + (ds.length + 1) = k + 1 + ds.length by omega]; exact p3⟩
    unfold forL
    rw [h1]
    dsimp only
    rcases h2 with h2 | h2 <;> (rw [h2]; exact h3)
theorem for_run {f : Env' → RI} {h : D → Env' → Option Env'} {t : Env' → RS} {env e0 : Env'} {ds : List D} (P : Nat → Env' → Prop) (hf : f env = .ok ds e0) (p : P 0 e0)
    (st : ∀ i d e, ds[i]? = some d → P i e → ∃ e1, h d e = some e1 ∧ ∃ e2, (t e1 = .nx e2 ∨ t e1 = .ct e2) ∧ P (i + 1) e2) : ∃ e', sFor f h t env = .nx e' ∧ P ds.length e' := by
  obtain ⟨e', h1, h2⟩ := forL_run (h := h) (t := t) P ds 0 e0 p fun i d e hd pe => by
    rw [Nat.zero_add] at pe ⊢
    exact st i d e hd pe
  refine ⟨e', ?_, by rw [Nat.zero_add] at h2; exact h2⟩
  unfold sFor
  rw [hf]
  exact h1
theorem whL_run {c : Env' → RT} {t : Env' → RS} (P Q : Env' → Prop) (m : Env' → Nat) (st : ∀ e, P e → (∃ e1, c e = .ok false e1 ∧ Q e1) ∨ (∃ e1 e2, c e = .ok true e1 ∧ (t e1 = .nx e2 ∨ t e1 = .ct e2) ∧ P e2 ∧ m e2 < m e)) : ∀ (n : Nat) (e : Env'), P e → m e < n → ∃ e', whL c t n e = .nx e' ∧ Q e'
  | 0, e, _, h => by omega
  | n + 1, e, p, h => by
    rcases st e p with ⟨e1, h1, q⟩ | ⟨e1, e2, h1, h2, p2, hm⟩
    · exact ⟨e1, by unfold whL; rw [h1], q⟩
    · obtain ⟨e', h3, q⟩ := whL_run P Q m st n e2 p2 (by omega)
      refine ⟨e', ?_, q⟩
      unfold whL
      rw [h1]
      dsimp only
      rcases h2 with h2 | h2 <;> (rw [h2]; exact h3)
theorem mulOk_lt {i j : Int} {a b : Nat} (h1 : i.natAbs < 2 ^ a) (h2 : j.natAbs < 2 ^ b) (h : a + b ≤ 100000000) (ha : 0 < a) (hb : 0 < b) : mulOk i j = true := by
  have l : ∀ (x c : Nat), x < 2 ^ c → 0 < c → x.log2 < c := fun x c hx hc => by
    by_cases hx0 : x = 0
    · subst hx0; rw [Nat.log2_zero]; exact hc
    · exact (Nat.log2_lt hx0).mpr hx
  unfold mulOk
  exact decide_eq_true (by have := l _ _ h1 ha; have := l _ _ h2 hb; omega)
theorem natAbs_mul_lt {i j : Int} {a b : Nat} (h1 : i.natAbs < 2 ^ a) (h2 : j.natAbs < 2 ^ b) : (i * j).natAbs < 2 ^ (a + b) := by
  rw [Int.natAbs_mul, Nat.pow_add]
  exact Nat.mul_lt_mul'' h1 h2
theorem natAbs_add_lt {i j : Int} {a : Nat} (h1 : i.natAbs < 2 ^ a) (h2 : j.natAbs < 2 ^ a) : (i + j).natAbs < 2 ^ (a + 1) := by
  have := Int.natAbs_add_le i j
  rw [Nat.pow_succ]
  omega
theorem natAbs_sub_lt {i j : Int} {a : Nat} (h1 : i.natAbs < 2 ^ a) (h2 : j.natAbs < 2 ^ a) : (i - j).natAbs < 2 ^ (a + 1) := by
  have := Int.natAbs_sub_le i j
  rw [Nat.pow_succ]
  omega
theorem natAbs_le_pow {i : Int} {a b : Nat} (h1 : i.natAbs < 2 ^ a) (h : a ≤ b) : i.natAbs < 2 ^ b := Nat.lt_of_lt_of_le h1 (Nat.pow_le_pow_right (by decide) h)
theorem bits_lt {z : Int} {k : Nat} (h : PySem.Builtin.Int.intBits z ≤ k) : z.natAbs < 2 ^ k := by
  unfold PySem.Builtin.Int.intBits at h
  split at h
  · rename_i h0
    have : z = 0 := by simpa using h0
    subst this
    exact Nat.two_pow_pos k
  · rename_i h0
    have hz : z.natAbs ≠ 0 := by simpa using h0
    exact (Nat.log2_lt hz).mp (by omega)
end L2.S

set_option Elab.async false
set_option linter.all false
set_option maxRecDepth 100000
set_option maxHeartbeats 4000000
namespace L2.S
/-! ### single operators at ints -/
theorem add_ii (a b : Int) : pAdd (.int a) (.int b) = some (.d (.int (a + b))) := rfl
theorem sub_ii (a b : Int) : pSubI (.int a) (.int b) = some (.d (.int (a - b))) := rfl
theorem mul_ii {a b : Int} (h : mulOk a b = true) : pMul (.int a) (.int b) = some (.d (.int (a * b))) := by
  show orP (pI mulOk fun i j => .int (i * j)) _ (.int a) (.int b) = _
  unfold orP pI
  dsimp only
  rw [if_pos h]
theorem mod_ii {a b : Int} (h : 0 < b) : pModI (.int a) (.int b) = some (.d (.int (a % b))) := by
  show pI posOk _ (.int a) (.int b) = _
  unfold pI
  dsimp only
  rw [if_pos (show posOk a b = true from decide_eq_true h)]
theorem div_ii {a b : Int} (h : b ≠ 0) : pDivG (.int a) (.int b) = some (.d (.int (a.fdiv b))) := by
  unfold pDivG
  dsimp only
  rw [if_neg h]
theorem pow_ii {a b : Int} (h : powOk a b = true) : pPowI (.int a) (.int b) = some (.d (.int (a ^ b.toNat))) := by
  show pI powOk _ (.int a) (.int b) = _
  unfold pI
  dsimp only
  rw [if_pos h]
theorem lt_ii (a b : Int) : pLt (.int a) (.int b) = some (.d (.bl (decide (a < b)))) := rfl
theorem le_ii (a b : Int) : pLe (.int a) (.int b) = some (.d (.bl (decide (a ≤ b)))) := rfl
theorem gt_ii (a b : Int) : pGt (.int a) (.int b) = some (.d (.bl (decide (b < a)))) := rfl
theorem ge_ii (a b : Int) : pGe (.int a) (.int b) = some (.d (.bl (decide (b ≤ a)))) := rfl
theorem eq_ii (a b : Int) : pEq false (.int a) (.int b) = some (.d (.bl (a == b))) := rfl
theorem ne_ii (a b : Int) : pEq true (.int a) (.int b) = some (.d (.bl (!(a == b)))) := rfl
theorem orP_ii {p q : D → D → Option RV} {x y : D} {r : RV} (h : p x y = some r) : orP p q x y = some r := by unfold orP; rw [h]
theorem orP_n {p q : D → D → Option RV} {x y : D} (h : p x y = none) : orP p q x y = q x y := by unfold orP; rw [h]
theorem eqX_i (a : Int) (y : D) : pEqX (.int a) y = none := rfl
theorem eqM_i {neg : Bool} {M : List (Nat × Fn × List Nat)} {q : D → D → Option RV} (a : Int) (y : D) (e : Env') : pEqM neg M q (.int a) y e = ofOp q (.int a) y e := rfl
theorem own_i {M : List (Nat × Fn)} {q : D → D → Option RV} (a : Int) (y : D) (e : Env') : pOwn M q (.int a) y e = ofOp q (.int a) y e := rfl
theorem own_oo {M : List (Nat × Fn)} {q : D → D → Option RV} (c : Nat) (xs ys : List D) (e : Env') : pOwn M q (.obj c xs) (.obj c ys) e = (match M.lookup c with | some φ => callR φ [] [.d (.obj c xs), .d (.obj c ys)] e | none => .no) := by
  show (if c = c then _ else _) = _
  rw [if_pos rfl]
  all_goals rfl
theorem ix_lI (rs : List Int) (k : Nat) (h : k < rs.length) : ixD (.lst (rs.map D.int)) (.int k) = some (.int rs[k]) := by
  show atI (rs.map D.int) (k : Int) = _
  unfold atI ixN
  simp [h]
/-- a def's run -/
def startE (as : List SV) (n : Nat) : Env' := as ++ List.replicate (n - as.length) .un
def endF (as : List SV) : RS → RF
  | .rt r e => .ok r (outsA 0 as e)
  | .nx e => .ok (.d .non) (outsA 0 as e)
  | .ex x e => .ex x (outsA 0 as e)
  | _ => .no
theorem fnF_run {g : Env' → RS} {n m : Nat} {as : List SV} (h : as.length = m := by rfl) : fnF g n m as = endF as (g (startE as n)) := by
  unfold fnF
  rw [if_pos h]
  unfold bodyF endF startE
  cases g (as ++ List.replicate (n - as.length) SV.un) <;> rfl
theorem fnF_rt {g : Env' → RS} {n m : Nat} {as : List SV} {e e1 : Env'} {r : RV} {o : List (Nat × OB)} (h : as.length = m) (hs : startE as n = e) (hg : g e = .rt r e1) (ho : outsA 0 as e1 = o) : fnF g n m as = .ok r o := by
  rw [fnF_run h, hs, hg]
  show RF.ok r (outsA 0 as e1) = _
  rw [ho]
theorem fnF_nx {g : Env' → RS} {n m : Nat} {as : List SV} {e e1 : Env'} {o : List (Nat × OB)} (h : as.length = m) (hs : startE as n = e) (hg : g e = .nx e1) (ho : outsA 0 as e1 = o) : fnF g n m as = .ok (.d .non) o := by
  rw [fnF_run h, hs, hg]
  show RF.ok _ (outsA 0 as e1) = _
  rw [ho]
theorem fnF_ex {g : Env' → RS} {n m : Nat} {as : List SV} {e e1 : Env'} {x : Ex} {o : List (Nat × OB)} (h : as.length = m) (hs : startE as n = e) (hg : g e = .ex x e1) (ho : outsA 0 as e1 = o) : fnF g n m as = .ex x o := by
  rw [fnF_run h, hs, hg]
  show RF.ex x (outsA 0 as e1) = _
  rw [ho]
end L2.S
namespace L2.S
theorem gN_at {i : Nat} {d : D} {e : Env'} (h : canSet e i = true) : gN i d e = some (e.set i (.val d)) := by unfold gN; rw [if_pos h]
/-- a slot that holds data or nothing -/
def Fr1 (x : SV) : Prop := x = .un ∨ ∃ d, x = .val d
theorem Fr1.un : Fr1 .un := .inl rfl
theorem Fr1.val {d : D} : Fr1 (.val d) := .inr ⟨d, rfl⟩
theorem Fr1.can {x : SV} {e : Env'} {i : Nat} (hx : Fr1 x) (h : e[i]? = some x) : canSet e i = true := by
  unfold canSet
  rw [h]
  rcases hx with rfl | ⟨d, rfl⟩ <;> rfl
theorem smI_ok {n : Nat} (h : n ≤ 16777216) : smI (n : Int) = true := by
  unfold smI
  simp
  omega
def lsI (rs : List Int) : List D := rs.map D.int
theorem lsI_app (rs : List Int) (r : Int) : lsI rs ++ [D.int r] = lsI (rs ++ [r]) := by simp [lsI]
theorem lsI_len (rs : List Int) : (lsI rs).length = rs.length := by simp [lsI]
theorem rngD_0 (n : Nat) : rngD 0 (n : Int) = (List.range n).map fun (i : Nat) => D.int (i : Int) := by
  unfold rngD
  simp
theorem rng_get {n i : Nat} {d : D} (h : ((List.range n).map fun (i : Nat) => D.int (i : Int))[i]? = some d) : i < n ∧ d = .int (i : Int) := by
  have hi := (List.getElem?_eq_some_iff.mp h).1
  simp at hi
  rw [List.getElem?_map, List.getElem?_range hi] at h
  exact ⟨hi, (Option.some.inj h).symm⟩
end L2.S
namespace L2.S
theorem outsA_val : ∀ (ds : List D) (k : Nat) (e : Env'), outsA k (ds.map .val) e = []
  | [], _, _ => rfl
  | d :: ds, k, [] => rfl
  | d :: ds, k, x :: e => by
    show outsA (k + 1) (ds.map .val) e = []
    exact outsA_val ds (k + 1) e
end L2.S
namespace L2.S
theorem iR1_at {fa : Env' → RA} {e e' : Env'} {n : Nat} (h : fa e = .ok [.d (.int (n : Int))] e') (hn : n ≤ 16777216) : iR1 fa e = .ok ((List.range n).map fun (i : Nat) => D.int (i : Int)) e' := by
  have q := smI_ok hn
  unfold iR1 RA.bindI
  rw [h]
  dsimp only [avI, Option.map]
  rw [if_pos q, rngD_0]
end L2.S
namespace L2.S
theorem if_t {c : Env' → RT} {t u : Env' → RS} {e e' : Env'} (h : c e = .ok true e') : sIf c t u e = t e' := by unfold sIf RT.bindS; rw [h]; exact if_pos rfl
theorem if_f {c : Env' → RT} {t u : Env' → RS} {e e' : Env'} (h : c e = .ok false e') : sIf c t u e = u e' := by unfold sIf RT.bindS; rw [h]; exact if_neg Bool.false_ne_true
end L2.S
namespace L2.S
theorem if_fn {c : Env' → RT} {t : Env' → RS} {e e' : Env'} (h : c e = .ok false e') : sIf c t sNx e = .nx e' := (if_f h).trans rfl
end L2.S
namespace L2.S
/-- a method's call, its parts told -/
theorem meth_at {c : Nat} {φ : Fn} {dds : List D} {f : Env' → R} {fa : Env' → RA} {e e1 e2 : Env'} {xs : List D} {as : List AV} {r : R} (h1 : f e = .ok (.d (.obj c xs)) e1) (h2 : fa e1 = .ok as e2) (h3 : callR φ dds (.d (.obj c xs) :: as) e2 = r) : cMeth c φ dds f fa e = r := by
  unfold cMeth
  rw [h1]
  show (if c = c then _ else _) = _
  rw [if_pos rfl, h2]
  exact h3
theorem ad_at {f : Env' → R} {fa : Env' → RA} {e e1 e2 : Env'} {d : D} {as : List AV} (h1 : f e = .ok (.d d) e1) (h2 : fa e1 = .ok as e2) : cAd f fa e = .ok (.d d :: as) e2 := by
  unfold cAd
  rw [h1]
  show (match fa e1 with | .ok as e' => RA.ok (.d d :: as) e' | .ex x e' => .ex x e' | .no => .no) = _
  rw [h2]
theorem ret_at {f : Env' → R} {e e1 : Env'} {r : RV} (h1 : f e = .ok r e1) : sRet f e = .rt r e1 := by
  unfold sRet
  rw [h1]
  rfl
end L2.S
namespace L2.S
theorem call_1 {φ : Fn} {x : D} {r : RV} {e : Env'} (q : φ [.val x] = .ok r []) : callR φ [] [.d x] e = .ok r e := by
  show (if ([] : List Nat).Nodup then (match φ [.val x] with | .ok r outs => R.ok r (putA 0 e outs [.d x]) | .ex x outs => .ex x (putA 0 e outs _) | .no => .no) else .no) = _
  rw [if_pos List.nodup_nil, q]
  rfl
theorem call_2 {φ : Fn} {x y : D} {r : RV} {e : Env'} (q : φ [.val x, .val y] = .ok r []) : callR φ [] [.d x, .d y] e = .ok r e := by
  show (if ([] : List Nat).Nodup then (match φ [.val x, .val y] with | .ok r outs => R.ok r (putA 0 e outs [.d x, .d y]) | .ex x outs => .ex x (putA 0 e outs _) | .no => .no) else .no) = _
  rw [if_pos List.nodup_nil, q]
  rfl
theorem call_3 {φ : Fn} {x y z : D} {r : RV} {e : Env'} (q : φ [.val x, .val y, .val z] = .ok r []) : callR φ [] [.d x, .d y, .d z] e = .ok r e := by
  show (if ([] : List Nat).Nodup then (match φ [.val x, .val y, .val z] with | .ok r outs => R.ok r (putA 0 e outs [.d x, .d y, .d z]) | .ex x outs => .ex x (putA 0 e outs _) | .no => .no) else .no) = _
  rw [if_pos List.nodup_nil, q]
  rfl
theorem call_4 {φ : Fn} {x y z w : D} {r : RV} {e : Env'} (q : φ [.val x, .val y, .val z, .val w] = .ok r []) : callR φ [] [.d x, .d y, .d z, .d w] e = .ok r e := by
  show (if ([] : List Nat).Nodup then (match φ [.val x, .val y, .val z, .val w] with | .ok r outs => R.ok r (putA 0 e outs [.d x, .d y, .d z, .d w]) | .ex x outs => .ex x (putA 0 e outs _) | .no => .no) else .no) = _
  rw [if_pos List.nodup_nil, q]
  rfl
theorem call_at {φ : Fn} {dds : List D} {fa : Env' → RA} {e e1 : Env'} {as : List AV} {r : R} (h2 : fa e = .ok as e1) (h3 : callR φ dds as e1 = r) : cCall φ dds fa e = r := by
  unfold cCall RA.bind
  rw [h2]
  exact h3
end L2.S

set_option linter.all false
/-! plain facts of ints -/
namespace L2.S.W
/-- lowest terms -/
def sgc (n d : Int) : Int := if 0 < d then (Int.gcd n d : Int) else -(Int.gcd n d : Int)
def nrN (n d : Int) : Int := n.fdiv (sgc n d)
def nrD (n d : Int) : Int := d.fdiv (sgc n d)
theorem sgc_ne {n d : Int} (h : d ≠ 0) : sgc n d ≠ 0 := by
  have : Int.gcd n d ≠ 0 := fun z => h (Int.gcd_eq_zero_iff.mp z).2
  unfold sgc
  split <;> omega
theorem sgc_dvd_n (n d : Int) : sgc n d ∣ n := by
  unfold sgc
  split
  · exact Int.gcd_dvd_left ..
  · exact (Int.neg_dvd).mpr (Int.gcd_dvd_left ..)
theorem sgc_dvd_d (n d : Int) : sgc n d ∣ d := by
  unfold sgc
  split
  · exact Int.gcd_dvd_right ..
  · exact (Int.neg_dvd).mpr (Int.gcd_dvd_right ..)
theorem fdiv_mul_of_dvd {a b : Int} (h : b ∣ a) : a.fdiv b * b = a := Int.fdiv_mul_cancel h
theorem nrN_mul (n d : Int) : nrN n d * sgc n d = n := fdiv_mul_of_dvd (sgc_dvd_n n d)
theorem nrD_mul (n d : Int) : nrD n d * sgc n d = d := fdiv_mul_of_dvd (sgc_dvd_d n d)
theorem nrD_pos {n d : Int} (h : d ≠ 0) : 0 < nrD n d := by
  have e := nrD_mul n d
  have hs := sgc_ne (n := n) h
  rcases Int.lt_trichotomy (nrD n d) 0 with q | q | q
  · exfalso
    by_cases hd : 0 < d
    · have : 0 < sgc n d := by unfold sgc at hs ⊢; rw [if_pos hd] at hs ⊢; omega
      have := Int.mul_neg_of_neg_of_pos q this
      omega
    · have : sgc n d < 0 := by unfold sgc at hs ⊢; rw [if_neg hd] at hs ⊢; omega
      have := Int.mul_pos_of_neg_of_neg q this
      omega
  · rw [q, Int.zero_mul] at e; exact (h e.symm).elim
  · exact q
theorem nr_cross (n d : Int) : nrN n d * d = n * nrD n d := by
  have h1 := nrN_mul n d
  have h2 := nrD_mul n d
  calc nrN n d * d = nrN n d * (nrD n d * sgc n d) := by rw [h2]
    _ = (nrN n d * sgc n d) * nrD n d := by ac_rfl
    _ = n * nrD n d := by rw [h1]
theorem natAbs_sgc (n d : Int) : (sgc n d).natAbs = Int.gcd n d := by
  unfold sgc
  split <;> omega
theorem nr_gcd {n d : Int} (h : d ≠ 0) : Int.gcd (nrN n d) (nrD n d) = 1 := by
  have g0 : 0 < Int.gcd n d := Nat.pos_of_ne_zero fun z => h (Int.gcd_eq_zero_iff.mp z).2
  have e : Int.gcd (nrN n d * sgc n d) (nrD n d * sgc n d) = Int.gcd (nrN n d) (nrD n d) * (sgc n d).natAbs := Int.gcd_mul_right ..
  rw [nrN_mul, nrD_mul, natAbs_sgc] at e
  exact Nat.eq_of_mul_eq_mul_right g0 (by omega)
theorem dvd_co {d n m : Int} (h : d ∣ n * m) (g : Int.gcd n d = 1) : d ∣ m := by
  have h' : d.natAbs ∣ n.natAbs * m.natAbs := by rw [← Int.natAbs_mul]; exact Int.natAbs_dvd_natAbs.mpr h
  have c : Nat.Coprime d.natAbs n.natAbs := by
    unfold Nat.Coprime
    rw [Nat.gcd_comm]
    exact g
  exact Int.natAbs_dvd_natAbs.mp (c.dvd_of_dvd_mul_left h')
/-- lowest terms are told by the cross product -/
theorem low_eq {n d n' d' : Int} (h : 0 < d) (h' : 0 < d') (g : Int.gcd n d = 1) (g' : Int.gcd n' d' = 1) (e : n * d' = n' * d) : n = n' ∧ d = d' := by
  have hd : d ∣ d' := by
    have : d ∣ n * d' := ⟨n', by rw [e]; ac_rfl⟩
    exact dvd_co this g
  have hd' : d' ∣ d := by
    have : d' ∣ n' * d := ⟨n, by rw [← e]; ac_rfl⟩
    exact dvd_co this g'
  have ed : d = d' := Int.dvd_antisymm (by omega) (by omega) hd hd'
  subst ed
  exact ⟨Int.eq_of_mul_eq_mul_right (by omega) e, rfl⟩
theorem nr_low {n d : Int} (h : 0 < d) (g : Int.gcd n d = 1) : nrN n d = n ∧ nrD n d = d := by
  have e : sgc n d = 1 := by unfold sgc; rw [if_pos h, g]; rfl
  unfold nrN nrD
  rw [e]
  exact ⟨Int.fdiv_one n, Int.fdiv_one d⟩
theorem nr_eq {n d n' d' : Int} (h : d ≠ 0) (h' : d' ≠ 0) (e : n * d' = n' * d) : nrN n d = nrN n' d' ∧ nrD n d = nrD n' d' := by
  refine low_eq (nrD_pos h) (nrD_pos h') (nr_gcd h) (nr_gcd h') ?_
  have c1 := nr_cross n d
  have c2 := nr_cross n' d'
  -- (N D') (d d') = n D d' ... 
  have hdd : d * d' ≠ 0 := Int.mul_ne_zero h h'
  refine Int.eq_of_mul_eq_mul_right hdd ?_
  calc nrN n d * nrD n' d' * (d * d') = (nrN n d * d) * (nrD n' d' * d') := by ac_rfl
    _ = (n * nrD n d) * (nrD n' d' * d') := by rw [c1]
    _ = (n * d') * (nrD n d * nrD n' d') := by ac_rfl
    _ = (n' * d) * (nrD n d * nrD n' d') := by rw [e]
    _ = (n' * nrD n' d') * (nrD n d * d) := by ac_rfl
    _ = (nrN n' d' * d') * (nrD n d * d) := by rw [c2]
    _ = nrN n' d' * nrD n d * (d * d') := by ac_rfl
end L2.S.W

set_option Elab.async false
set_option linter.all false
set_option maxRecDepth 100000
set_option maxHeartbeats 8000000
namespace L2.S.W
open PySem PySem.Spec PyProof.Rows L2 L2.S
/-! ### the text by places -/
abbrev PP : Program := PySem.Challenge.pw_seriesroads_k01_arithmetic
def top (i : Nat) : Stmt := PP.main.body.getD i (.Pass ⟨0, 0, 0, 0⟩)
abbrev s_Ratio_eq : Stmt := inClass (top 7) 5
def N_Ratio_eq : List Str := ["self", "other"]
abbrev s_Ratio_init : Stmt := inClass (top 7) 0
def N_Ratio_init : List Str := ["self", "n", "d", "common"]
abbrev s_Ratio_add : Stmt := inClass (top 7) 1
def N_Ratio_add : List Str := ["self", "other"]
abbrev s_total : Stmt := top 8
def N_total : List Str := ["numbers", "out", "number"]
abbrev s_law_cell : Stmt := top 10
def N_law_cell : List Str := ["script", "k"]
abbrev s_law_odd : Stmt := top 11
def N_law_odd : List Str := ["value", "item"]
abbrev s_law_honest : Stmt := top 12
def N_law_honest : List Str := ["value"]
abbrev s_law_draws : Stmt := top 13
def N_law_draws : List Str := ["script", "at", "count", "bound", "cell", "out", "k", "number", "mixed"]
abbrev s_law_gcd : Stmt := top 14
def N_law_gcd : List Str := ["a", "b", "one", "two", "rest"]
abbrev s_law_rat : Stmt := top 15
def N_law_rat : List Str := ["n", "d", "common"]
abbrev s_law_add : Stmt := top 16
def N_law_add : List Str := ["a", "b"]
abbrev s_law_mul : Stmt := top 17
def N_law_mul : List Str := ["a", "b"]
abbrev s_law_is_integer : Stmt := top 18
def N_law_is_integer : List Str := ["value"]
abbrev s_law_pair : Stmt := top 19
def N_law_pair : List Str := ["value"]
abbrev s_law_drawn : Stmt := top 20
def N_law_drawn : List Str := ["script", "at", "row", "n"]
abbrev s_law_power : Stmt := top 21
def N_law_power : List Str := ["a", "k", "out", "step"]
abbrev s_Ratio_inverse : Stmt := inClass (top 7) 7
def N_Ratio_inverse : List Str := ["self"]
abbrev s_Ratio_over : Stmt := inClass (top 7) 8
def N_Ratio_over : List Str := ["self", "other"]
abbrev s_Ratio_neg : Stmt := inClass (top 7) 4
def N_Ratio_neg : List Str := ["self"]
abbrev s_Ratio_power : Stmt := inClass (top 7) 9
def N_Ratio_power : List Str := ["self", "k", "n", "d", "_"]
abbrev s_law_no_inverse : Stmt := top 22
def N_law_no_inverse : List Str := ["a", "count"]
abbrev s_Ratio_sub : Stmt := inClass (top 7) 2
def N_Ratio_sub : List Str := ["self", "other"]
abbrev s_Ratio_mul : Stmt := inClass (top 7) 3
def N_Ratio_mul : List Str := ["self", "other"]
abbrev s_Ratio_compare : Stmt := inClass (top 7) 10
def N_Ratio_compare : List Str := ["self", "other", "gap"]
abbrev s_Ratio_sign : Stmt := inClass (top 7) 11
def N_Ratio_sign : List Str := ["self"]
abbrev s_Ratio_floor : Stmt := inClass (top 7) 12
def N_Ratio_floor : List Str := ["self"]
abbrev s_Ratio_is_zero : Stmt := inClass (top 7) 13
def N_Ratio_is_zero : List Str := ["self"]
abbrev s_Ratio_whole : Stmt := inClass (top 7) 14
def N_Ratio_whole : List Str := ["self"]
abbrev s_law : Stmt := top 23
def N_law : List Str := ["script", "a", "b", "k", "x", "y", "minus", "due", "told", "at", "gap", "low"]
/-! ### the bodies as functions -/
def g_Ratio_eq : Env' → RS := sRet (cAnd (cIsi [(0, false), (1, false), (2, false), (3, false), (4, false), (5, false), (10 + 0, true)] (cV 1)) (cAnd (cOp (pEq false) (cFld [(0, 0)] (cV 0)) (cFld [(0, 0)] (cV 1))) (cOp (pEq false) (cFld [(0, 1)] (cV 0)) (cFld [(0, 1)] (cV 1)))))
def φ_Ratio_eq : Fn := fnF g_Ratio_eq 2 2
def g_Ratio_init : Env' → RS := sSeq (sIf (cTr (two (pEqM false ((0, φ_Ratio_eq, [0, 1, 2, 3, 4, 5, 10]) :: []) (orP pEqX (pEq false))) (cV 2) (cK (.int 0)))) (sRaise 1) (sNx)) (
sSeq (sSet 3 (cIf (cTr (cOp (pGt) (cV 2) (cK (.int 0)))) (cBi bGcd (cAd (cV 1) (cAd (cV 2) (cA0)))) (cNeg (cBi bGcd (cAd (cV 1) (cAd (cV 2) (cA0))))))) (
sSeq (sFld0 0 0 0 (cOp pDivG (cV 1) (cV 3))) (
sFld0 0 0 1 (cOp pDivG (cV 2) (cV 3)))))
def φ_Ratio_init : Fn := fnF g_Ratio_init 4 3
def g_Ratio_add : Env' → RS := sRet (cMake 0 2 φ_Ratio_init [] (cAd (cOp pAdd (cOp pMul (cFld [(0, 0)] (cV 0)) (cFld [(0, 1)] (cV 1))) (cOp pMul (cFld [(0, 0)] (cV 1)) (cFld [(0, 1)] (cV 0)))) (cAd (cOp pMul (cFld [(0, 1)] (cV 0)) (cFld [(0, 1)] (cV 1))) (cA0))))
def φ_Ratio_add : Fn := fnF g_Ratio_add 2 2
def g_total : Env' → RS := sSeq (sSet 1 (cMake 0 2 φ_Ratio_init [(.int 1)] (cAd (cK (.int 0)) (cA0)))) (
sSeq (sFor (iD (cV 0)) (gN 2) (sSet 1 (two (pOwn ((0, φ_Ratio_add) :: []) pAdd) (cV 1) (cV 2)))) (
sRet (cV 1)))
def φ_total : Fn := fnF g_total 3 1
def g_law_cell : Env' → RS := sSeq (sIf (cTr (cOp (pLt) (cV 1) (cBi bLen (cAd (cV 0) (cA0))))) (sRet (cIx (cV 0) (cV 1))) (sNx)) (
sRet (cK (.int 0)))
def φ_law_cell : Fn := fnF g_law_cell 2 2
def g_law_odd (φr : Fn) : Env' → RS := sSeq (sIf (cTr (two (pEqM false ((0, φ_Ratio_eq, [0, 1, 2, 3, 4, 5, 10]) :: []) (orP pEqX (pEq false))) (cV 0) (cK (.str [97, 32, 119, 111, 114, 100, 32, 116, 104, 97, 116, 32, 110, 111, 116, 104, 105, 110, 103, 32, 101, 108, 115, 101, 32, 105, 115])))) (sRet (cK (.bl true))) (sNx)) (
sRet (cAnd (cIsi [(0, false), (1, false), (2, false), (3, false), (4, true), (5, true), (10 + 0, false)] (cV 0)) (cOp (pGt) (cBi bLen (cAd (cLc (iD (cV 0)) [1] (gN 1) (cTr (cCall φr [] (cAd (cV 1) (cA0)))) (cV 1)) (cA0))) (cK (.int 0)))))
def φn_law_odd : Nat → Fn
  | 0 => fun _ => .no
  | n + 1 => fnF (g_law_odd (φn_law_odd n)) 2 1
def φ_law_odd : Fn := φn_law_odd 5
def g_law_honest : Env' → RS := sRet (cIf (cTr (cCall φ_law_odd [] (cAd (cV 0) (cA0)))) (cK (.str [111, 100, 100])) (cV 0))
def φ_law_honest : Fn := fnF g_law_honest 1 1
def g_law_draws : Env' → RS := sSeq (sSet 4 (cCall φ_law_cell [] (cAd (cV 0) (cAd (cV 1) (cA0))))) (
sSeq (sSetO 5 (cLst (cA0))) (
sSeq (sIf (cTr (cOp (pGe) (cV 4) (cOp pPowI (cK (.int 10)) (cK (.int 18))))) (sSeq (sFor (iR1 (cAd (cV 2) (cA0))) (gN 6) (sSeq (sDrop (cApp 5 (cOp pModI (cBi bInt (cAd (cV 4) (cA0))) (cV 3)))) (
sSet 4 (cOp pDivG (cBi bInt (cAd (cV 4) (cA0))) (cV 3))))) (
sRetO 5)) (sNx)) (
sSeq (sSet 7 (cOp pAdd (cOp pAdd (cOp pModI (cBi bInt (cAd (cV 4) (cA0))) (cK (.int 2147483647))) (cOp pMul (cK (.int 3)) (cV 1))) (cK (.int 1)))) (
sSeq (sFor (iR1 (cAd (cV 2) (cA0))) (gN 6) (sSeq (sSet 7 (cOp pModI (cBi bInt (cAd (cOp pAdd (cOp pAdd (cOp pMul (cV 7) (cK (.int 48271))) (cOp pMul (cK (.int 11)) (cV 6))) (cV 1)) (cA0))) (cK (.int 2147483647)))) (
sSeq (sSet 8 (cOp pModI (cBi bInt (cAd (cOp pAdd (cOp pAdd (cOp pMul (cV 7) (cK (.int 69621))) (cOp pMul (cK (.int 5)) (cV 6))) (cK (.int 7))) (cA0))) (cK (.int 2147483629)))) (
sDrop (cApp 5 (cOp pModI (cBi bInt (cAd (cV 8) (cA0))) (cV 3))))))) (
sRetO 5)))))
def φ_law_draws : Fn := fnF g_law_draws 9 4
def g_law_gcd : Env' → RS := sSeq (sSet 2 (cBi bAbs (cAd (cV 0) (cA0)))) (
sSeq (sSet 3 (cBi bAbs (cAd (cV 1) (cA0)))) (
sSeq (sWh fuelE (cTr (cOp (pEq true) (cV 3) (cK (.int 0)))) (sSeq (sSet 4 (cOp pModI (cBi bInt (cAd (cV 2) (cA0))) (cV 3))) (
sSeq (sSet 2 (cV 3)) (
sSet 3 (cV 4))))) (
sRet (cV 2))))
def φ_law_gcd : Fn := fnF g_law_gcd 5 2
def g_law_rat : Env' → RS := sSeq (sSet 2 (cCall φ_law_gcd [] (cAd (cV 0) (cAd (cV 1) (cA0))))) (
sSeq (sIf (cTr (cOp (pLt) (cV 1) (cK (.int 0)))) (sSet 2 (cNeg (cV 2))) (sNx)) (
sRet (cTup (cAd (cOp pDivG (cV 0) (cV 2)) (cAd (cOp pDivG (cV 1) (cV 2)) (cA0))))))
def φ_law_rat : Fn := fnF g_law_rat 3 2
def g_law_add : Env' → RS := sRet (cCall φ_law_rat [] (cAd (cOp pAdd (cOp pMul (cIx (cV 0) (cK (.int 0))) (cIx (cV 1) (cK (.int 1)))) (cOp pMul (cIx (cV 1) (cK (.int 0))) (cIx (cV 0) (cK (.int 1))))) (cAd (cOp pMul (cIx (cV 0) (cK (.int 1))) (cIx (cV 1) (cK (.int 1)))) (cA0))))
def φ_law_add : Fn := fnF g_law_add 2 2
def g_law_mul : Env' → RS := sRet (cCall φ_law_rat [] (cAd (cOp pMul (cIx (cV 0) (cK (.int 0))) (cIx (cV 1) (cK (.int 0)))) (cAd (cOp pMul (cIx (cV 0) (cK (.int 1))) (cIx (cV 1) (cK (.int 1)))) (cA0))))
def φ_law_mul : Fn := fnF g_law_mul 2 2
def g_law_is_integer : Env' → RS := sRet (cAnd (cIsi [(0, false), (1, true), (2, true), (3, false), (4, false), (5, false), (10 + 0, false)] (cV 0)) (cNot (cIsi [(0, false), (1, true), (2, false), (3, false), (4, false), (5, false), (10 + 0, false)] (cV 0))))
def φ_law_is_integer : Fn := fnF g_law_is_integer 1 1
def g_law_pair : Env' → RS := sSeq (sIf (cOrT (cNotT (cTr (cIsi [(0, false), (1, false), (2, false), (3, false), (4, false), (5, false), (10 + 0, true)] (cV 0)))) (cOrT (cNotT (cTr (cCall φ_law_is_integer [] (cAd (cFld [(0, 0)] (cV 0)) (cA0))))) (cNotT (cTr (cCall φ_law_is_integer [] (cAd (cFld [(0, 1)] (cV 0)) (cA0))))))) (sRet (cK .non)) (sNx)) (
sSeq (sIf (cOrT (cTr (cOp (pLt) (cFld [(0, 1)] (cV 0)) (cK (.int 1)))) (cTr (cOp (pEq true) (cCall φ_law_gcd [] (cAd (cFld [(0, 0)] (cV 0)) (cAd (cFld [(0, 1)] (cV 0)) (cA0)))) (cK (.int 1))))) (sRet (cK .non)) (sNx)) (
sRet (cTup (cAd (cFld [(0, 0)] (cV 0)) (cAd (cFld [(0, 1)] (cV 0)) (cA0))))))
def φ_law_pair : Fn := fnF g_law_pair 1 1
def g_law_drawn : Env' → RS := sSeq (sSet 2 (cCall φ_law_draws [] (cAd (cV 0) (cAd (cV 1) (cAd (cK (.int 4)) (cAd (cK (.int 121)) (cA0))))))) (
sSeq (sSet 3 (cOp pSubI (cIx (cV 2) (cK (.int 1))) (cK (.int 60)))) (
sSeq (sIf (cTr (cOp (pEq false) (cOp pModI (cIx (cV 2) (cK (.int 0))) (cK (.int 4))) (cK (.int 3)))) (sSet 3 (cCall φ_law_cell [] (cAd (cV 0) (cAd (cV 1) (cA0))))) (sNx)) (
sRet (cCall φ_law_rat [] (cAd (cV 3) (cAd (cOp pAdd (cOp pModI (cIx (cV 2) (cK (.int 2))) (cK (.int 40))) (cK (.int 1))) (cA0)))))))
def φ_law_drawn : Fn := fnF g_law_drawn 4 2
def g_law_power : Env' → RS := sSeq (sSet 2 (cTup (cAd (cK (.int 1)) (cAd (cK (.int 1)) (cA0))))) (
sSeq (sFor (iR1 (cAd (cBi bAbs (cAd (cV 1) (cA0))) (cA0))) (gN 3) (sSet 2 (cCall φ_law_mul [] (cAd (cV 2) (cAd (cV 0) (cA0)))))) (
sSeq (sIf (cTr (cOp (pLt) (cV 1) (cK (.int 0)))) (sRet (cCall φ_law_rat [] (cAd (cIx (cV 2) (cK (.int 1))) (cAd (cIx (cV 2) (cK (.int 0))) (cA0))))) (sNx)) (
sRet (cV 2))))
def φ_law_power : Fn := fnF g_law_power 4 2
def g_Ratio_inverse : Env' → RS := sRet (cMake 0 2 φ_Ratio_init [] (cAd (cFld [(0, 1)] (cV 0)) (cAd (cFld [(0, 0)] (cV 0)) (cA0))))
def φ_Ratio_inverse : Fn := fnF g_Ratio_inverse 1 1
def g_Ratio_over : Env' → RS := sRet (cMake 0 2 φ_Ratio_init [] (cAd (cOp pMul (cFld [(0, 0)] (cV 0)) (cFld [(0, 1)] (cV 1))) (cAd (cOp pMul (cFld [(0, 1)] (cV 0)) (cFld [(0, 0)] (cV 1))) (cA0))))
def φ_Ratio_over : Fn := fnF g_Ratio_over 2 2
def g_Ratio_neg : Env' → RS := sRet (cMake 0 2 φ_Ratio_init [] (cAd (cNeg (cFld [(0, 0)] (cV 0))) (cAd (cFld [(0, 1)] (cV 0)) (cA0))))
def φ_Ratio_neg : Fn := fnF g_Ratio_neg 1 1
def g_Ratio_power (φr : Fn) : Env' → RS := sSeq (sIf (cTr (cOp (pLt) (cV 1) (cK (.int 0)))) (sRet (cMeth 0 φr [] (cMeth 0 φ_Ratio_inverse [] (cV 0) cA0) (cAd (cNegM ((0, φ_Ratio_neg) :: []) (cV 1)) (cA0)))) (sNx)) (
sSeq (sAsg (cTup (cAd (cK (.int 1)) (cAd (cK (.int 1)) (cA0)))) (gT 2 (gC (gN 2) (gC (gN 3) (g0))))) (
sSeq (sFor (iR1 (cAd (cV 1) (cA0))) (gN 4) (sSeq (sSet 2 (cOp pMul (cV 2) (cFld [(0, 0)] (cV 0)))) (
sSet 3 (cOp pMul (cV 3) (cFld [(0, 1)] (cV 0)))))) (
sRet (cMake 0 2 φ_Ratio_init [] (cAd (cV 2) (cAd (cV 3) (cA0)))))))
def φn_Ratio_power : Nat → Fn
  | 0 => fun _ => .no
  | n + 1 => fnF (g_Ratio_power (φn_Ratio_power n)) 5 2
def φ_Ratio_power : Fn := φn_Ratio_power 2
def g_law_no_inverse : Env' → RS := sSeq (sSet 1 (cK (.int 0))) (
sSeq (sTry [(0, false), (1, true)] (sDrop (cMeth 0 φ_Ratio_inverse [] (cMake 0 2 φ_Ratio_init [(.int 1)] (cAd (cK (.int 0)) (cA0))) cA0)) (sSet 1 (cOp pAdd (cV 1) (cK (.int 1))))) (
sSeq (sTry [(0, false), (1, true)] (sDrop (cMeth 0 φ_Ratio_over [] (cV 0) (cAd (cMake 0 2 φ_Ratio_init [(.int 1)] (cAd (cK (.int 0)) (cA0))) (cA0)))) (sSet 1 (cOp pAdd (cV 1) (cK (.int 1))))) (
sSeq (sTry [(0, false), (1, true)] (sDrop (cMeth 0 φ_Ratio_power [] (cMake 0 2 φ_Ratio_init [(.int 1)] (cAd (cK (.int 0)) (cA0))) (cAd (cOp pSubI (cNeg (cK (.int 1))) (cV 1)) (cA0)))) (sSet 1 (cOp pAdd (cV 1) (cK (.int 1))))) (
sRet (cOp (pEq false) (cV 1) (cK (.int 3)))))))
def φ_law_no_inverse : Fn := fnF g_law_no_inverse 2 1
def g_Ratio_sub : Env' → RS := sRet (cMake 0 2 φ_Ratio_init [] (cAd (cOp pSubI (cOp pMul (cFld [(0, 0)] (cV 0)) (cFld [(0, 1)] (cV 1))) (cOp pMul (cFld [(0, 0)] (cV 1)) (cFld [(0, 1)] (cV 0)))) (cAd (cOp pMul (cFld [(0, 1)] (cV 0)) (cFld [(0, 1)] (cV 1))) (cA0))))
def φ_Ratio_sub : Fn := fnF g_Ratio_sub 2 2
def g_Ratio_mul : Env' → RS := sRet (cMake 0 2 φ_Ratio_init [] (cAd (cOp pMul (cFld [(0, 0)] (cV 0)) (cFld [(0, 0)] (cV 1))) (cAd (cOp pMul (cFld [(0, 1)] (cV 0)) (cFld [(0, 1)] (cV 1))) (cA0))))
def φ_Ratio_mul : Fn := fnF g_Ratio_mul 2 2
def g_Ratio_compare : Env' → RS := sSeq (sSet 2 (cOp pSubI (cOp pMul (cFld [(0, 0)] (cV 0)) (cFld [(0, 1)] (cV 1))) (cOp pMul (cFld [(0, 0)] (cV 1)) (cFld [(0, 1)] (cV 0))))) (
sRet (cOp pSubI (cBi bInt (cAd (cOp (pGt) (cV 2) (cK (.int 0))) (cA0))) (cBi bInt (cAd (cOp (pLt) (cV 2) (cK (.int 0))) (cA0)))))
def φ_Ratio_compare : Fn := fnF g_Ratio_compare 3 2
def g_Ratio_sign : Env' → RS := sRet (cOp pSubI (cBi bInt (cAd (cOp (pGt) (cFld [(0, 0)] (cV 0)) (cK (.int 0))) (cA0))) (cBi bInt (cAd (cOp (pLt) (cFld [(0, 0)] (cV 0)) (cK (.int 0))) (cA0))))
def φ_Ratio_sign : Fn := fnF g_Ratio_sign 1 1
def g_Ratio_floor : Env' → RS := sRet (cOp pDivG (cFld [(0, 0)] (cV 0)) (cFld [(0, 1)] (cV 0)))
def φ_Ratio_floor : Fn := fnF g_Ratio_floor 1 1
def g_Ratio_is_zero : Env' → RS := sRet (cOp (pEq false) (cFld [(0, 0)] (cV 0)) (cK (.int 0)))
def φ_Ratio_is_zero : Fn := fnF g_Ratio_is_zero 1 1
def g_Ratio_whole : Env' → RS := sRet (cOp (pEq false) (cFld [(0, 1)] (cV 0)) (cK (.int 1)))
def φ_Ratio_whole : Fn := fnF g_Ratio_whole 1 1
def g_law : Env' → RS := sSeq (sSet 1 (cCall φ_law_drawn [] (cAd (cV 0) (cAd (cK (.int 0)) (cA0))))) (
sSeq (sSet 2 (cCall φ_law_drawn [] (cAd (cV 0) (cAd (cK (.int 1)) (cA0))))) (
sSeq (sSet 3 (cOp pSubI (cIx (cCall φ_law_draws [] (cAd (cV 0) (cAd (cK (.int 2)) (cAd (cK (.int 1)) (cAd (cK (.int 11)) (cA0)))))) (cK (.int 0))) (cK (.int 5)))) (
sSeq (sSet 4 (cMake 0 2 φ_Ratio_init [] (cAd (cIx (cV 1) (cK (.int 0))) (cAd (cIx (cV 1) (cK (.int 1))) (cA0))))) (
sSeq (sSet 5 (cMake 0 2 φ_Ratio_init [] (cAd (cIx (cV 2) (cK (.int 0))) (cAd (cIx (cV 2) (cK (.int 1))) (cA0))))) (
sSeq (sSet 6 (cTup (cAd (cNegM ((0, φ_Ratio_neg) :: []) (cIx (cV 2) (cK (.int 0)))) (cAd (cIx (cV 2) (cK (.int 1))) (cA0))))) (
sSeq (sSetO 7 (cLst (cAd (cCall φ_law_add [] (cAd (cV 1) (cAd (cV 2) (cA0)))) (cAd (cCall φ_law_add [] (cAd (cV 1) (cAd (cV 6) (cA0)))) (cAd (cCall φ_law_mul [] (cAd (cV 1) (cAd (cV 2) (cA0)))) (cAd (cV 6) (cA0))))))) (
sSeq (sSetO 8 (cLst (cAd (two (pOwn ((0, φ_Ratio_add) :: []) pAdd) (cV 4) (cV 5)) (cAd (two (pOwn ((0, φ_Ratio_sub) :: []) pSubI) (cV 4) (cV 5)) (cAd (two (pOwn ((0, φ_Ratio_mul) :: []) pMul) (cV 4) (cV 5)) (cAd (cNegM ((0, φ_Ratio_neg) :: []) (cV 5)) (cA0))))))) (
sSeq (sIf (cTr (two (pEqM true ((0, φ_Ratio_eq, [0, 1, 2, 3, 4, 5, 10]) :: []) (pEq true)) (cIx (cV 2) (cK (.int 0))) (cK (.int 0)))) (sSeq (sDrop (cApp 7 (cCall φ_law_rat [] (cAd (cIx (cV 2) (cK (.int 1))) (cAd (cIx (cV 2) (cK (.int 0))) (cA0)))))) (
sSeq (sDrop (cApp 8 (cMeth 0 φ_Ratio_inverse [] (cV 5) cA0))) (
sSeq (sDrop (cApp 7 (cCall φ_law_rat [] (cAd (two (pOwn ((0, φ_Ratio_mul) :: []) pMul) (cIx (cV 1) (cK (.int 0))) (cIx (cV 2) (cK (.int 1)))) (cAd (two (pOwn ((0, φ_Ratio_mul) :: []) pMul) (cIx (cV 1) (cK (.int 1))) (cIx (cV 2) (cK (.int 0)))) (cA0)))))) (
sDrop (cApp 8 (cMeth 0 φ_Ratio_over [] (cV 4) (cAd (cV 5) (cA0)))))))) (sNx)) (
sSeq (sIf (cOrT (cTr (cOp (pGe) (cV 3) (cK (.int 0)))) (cTr (two (pEqM true ((0, φ_Ratio_eq, [0, 1, 2, 3, 4, 5, 10]) :: []) (pEq true)) (cIx (cV 1) (cK (.int 0))) (cK (.int 0))))) (sSeq (sDrop (cApp 7 (cCall φ_law_power [] (cAd (cV 1) (cAd (cV 3) (cA0)))))) (
sDrop (cApp 8 (cMeth 0 φ_Ratio_power [] (cV 4) (cAd (cV 3) (cA0)))))) (sNx)) (
sSeq (sDrop (cApp 7 (cCall φ_law_add [] (cAd (cCall φ_law_add [] (cAd (cV 1) (cAd (cV 2) (cA0)))) (cAd (cCall φ_law_add [] (cAd (cV 1) (cAd (cV 6) (cA0)))) (cA0)))))) (
sSeq (sDrop (cApp 8 (cCall φ_law_honest [] (cAd (cCall φ_total [] (cAd (cLst (cAd (cV 4) (cAd (cV 5) (cAd (cV 4) (cAd (cNegM ((0, φ_Ratio_neg) :: []) (cV 5)) (cA0)))))) (cA0))) (cA0))))) (
sSeq (sDrop (cApp 7 (cTup (cAd (cK (.int 0)) (cAd (cK (.int 1)) (cA0)))))) (
sSeq (sDrop (cApp 8 (cCall φ_law_honest [] (cAd (cCall φ_total [] (cAd (cTup (cA0)) (cA0))) (cA0))))) (
sSeq (sFor (iR1 (cAd (cLenO 7) (cA0))) (gN 9) (sIf (cTr (two (pEqM true ((0, φ_Ratio_eq, [0, 1, 2, 3, 4, 5, 10]) :: []) (pEq true)) (cCall φ_law_pair [] (cAd (cIxO 8 (cV 9)) (cA0))) (cIxO 7 (cV 9)))) (sRet (cK (.bl false))) (sNx))) (
sSeq (sSet 10 (two (pOwn ((0, φ_Ratio_sub) :: []) pSubI) (two (pOwn ((0, φ_Ratio_mul) :: []) pMul) (cIx (cV 1) (cK (.int 0))) (cIx (cV 2) (cK (.int 1)))) (two (pOwn ((0, φ_Ratio_mul) :: []) pMul) (cIx (cV 2) (cK (.int 0))) (cIx (cV 1) (cK (.int 1)))))) (
sSeq (sIf (cOrT (cTr (cOp (pEq true) (cMeth 0 φ_Ratio_compare [] (cV 4) (cAd (cV 5) (cA0))) (cOp pSubI (cBi bInt (cAd (cOp (pGt) (cV 10) (cK (.int 0))) (cA0))) (cBi bInt (cAd (cOp (pLt) (cV 10) (cK (.int 0))) (cA0)))))) (cTr (cOp (pEq true) (cMeth 0 φ_Ratio_sign [] (cV 4) cA0) (cOp pSubI (cBi bInt (cAd (cOp (pGt) (cIx (cV 1) (cK (.int 0))) (cK (.int 0))) (cA0))) (cBi bInt (cAd (cOp (pLt) (cIx (cV 1) (cK (.int 0))) (cK (.int 0))) (cA0))))))) (sRet (cK (.bl false))) (sNx)) (
sSeq (sSet 11 (cMeth 0 φ_Ratio_floor [] (cV 4) cA0)) (
sSeq (sIf (cOrT (cNotT (cTr (cCall φ_law_is_integer [] (cAd (cV 11) (cA0))))) (cNotT (cTr (cCh (pLe) (pLt) (two (pOwn ((0, φ_Ratio_mul) :: []) pMul) (cV 11) (cIx (cV 1) (cK (.int 1)))) (cIx (cV 1) (cK (.int 0))) (cOp pMul (cOp pAdd (cV 11) (cK (.int 1))) (cIx (cV 1) (cK (.int 1)))))))) (sRet (cK (.bl false))) (sNx)) (
sSeq (sIf (cOrT (cTr (two (pEqM true ((0, φ_Ratio_eq, [0, 1, 2, 3, 4, 5, 10]) :: []) (pEq true)) (cProp 0 φ_Ratio_whole (cV 4)) (two (pEqM false ((0, φ_Ratio_eq, [0, 1, 2, 3, 4, 5, 10]) :: []) (orP pEqX (pEq false))) (cIx (cV 1) (cK (.int 1))) (cK (.int 1))))) (cOrT (cNotT (cTr (cIsi [(0, false), (1, true), (2, false), (3, false), (4, false), (5, false), (10 + 0, false)] (cProp 0 φ_Ratio_whole (cV 4))))) (cTr (cOp (pEq true) (cMeth 0 φ_Ratio_is_zero [] (cV 4) cA0) (two (pEqM false ((0, φ_Ratio_eq, [0, 1, 2, 3, 4, 5, 10]) :: []) (orP pEqX (pEq false))) (cIx (cV 1) (cK (.int 0))) (cK (.int 0))))))) (sRet (cK (.bl false))) (sNx)) (
sRet (cAnd (two (pEqM false ((0, φ_Ratio_eq, [0, 1, 2, 3, 4, 5, 10]) :: []) (orP pEqX (pEq false))) (cCall φ_law_pair [] (cAd (cV 4) (cA0))) (cV 1)) (cAnd (two (pEqM false ((0, φ_Ratio_eq, [0, 1, 2, 3, 4, 5, 10]) :: []) (orP pEqX (pEq false))) (cCall φ_law_pair [] (cAd (cV 5) (cA0))) (cV 2)) (cCall φ_law_no_inverse [] (cAd (cV 4) (cA0)))))))))))))))))))))))))
def φ_law : Fn := fnF g_law 12 1
end L2.S.W

set_option Elab.async false
set_option linter.all false
set_option maxRecDepth 100000
set_option maxHeartbeats 8000000
namespace L2.S.W
open PySem PySem.Spec PyProof.Rows L2 L2.S
/-! ### what is written -/
structure Ad where
  (Ratio_eq Ratio_init Ratio_add total law_cell law_odd law_honest law_draws law_gcd law_rat law_add law_mul law_is_integer law_pair law_drawn law_power Ratio_inverse Ratio_over Ratio_neg Ratio_power law_no_inverse Ratio_sub Ratio_mul Ratio_compare Ratio_sign Ratio_floor Ratio_is_zero Ratio_whole law Fault ZeroDivisor Ratio p_Ratio_whole : Addr)
  r_Ratio_whole : List Value
def TT (K : PySem.W.Frag) (a : Ad) : Tb where
  K := K
  cl := fun n => match n with | 0 => a.Ratio | _ => 0
  fl := fun n => match n with | 0 => ["n", "d"] | _ => []
  ec := fun n => match n with | 0 => a.Fault | 1 => a.ZeroDivisor | _ => 0
  ef := fun n => []
  fn := fun n => 0
theorem zz {K : PySem.W.Frag} {mg : Str → Option Value} {n : Str} (h : ∃ h : Heap, K.In h ∧ h.Ns mainGlobals mg) (e : PySem.W.nsIn K mainGlobals n = some none) : mg n = none := let ⟨_, X, G⟩ := h; ns_none X G e
structure Facts (K : PySem.W.Frag) (mg : Str → Option Value) (a : Ad) : Prop where
  hG : ∃ h : Heap, K.In h ∧ h.Ns mainGlobals mg
  sk : SeerK K
  F_Ratio_eq : ∃ fd, FunD K "__eq__" "Ratio.__eq__" (defArgs s_Ratio_eq) (defBody s_Ratio_eq) (defScope s_Ratio_eq) [] [] a.Ratio_eq fd
  k_Ratio_eq : PySem.W.keepIn K (.ref a.Ratio_eq) = true
  F_Ratio_init : ∃ fd, FunD K "__init__" "Ratio.__init__" (defArgs s_Ratio_init) (defBody s_Ratio_init) (defScope s_Ratio_init) [V.int 1] [] a.Ratio_init fd
  k_Ratio_init : PySem.W.keepIn K (.ref a.Ratio_init) = true
  F_Ratio_add : ∃ fd, FunD K "__add__" "Ratio.__add__" (defArgs s_Ratio_add) (defBody s_Ratio_add) (defScope s_Ratio_add) [] [] a.Ratio_add fd
  k_Ratio_add : PySem.W.keepIn K (.ref a.Ratio_add) = true
  m_total : mg "total" = some (.ref a.total)
  F_total : ∃ fd, FunD K "total" "total" (defArgs s_total) (defBody s_total) (defScope s_total) [] [] a.total fd
  k_total : PySem.W.keepIn K (.ref a.total) = true
  m__law_cell : mg "_law_cell" = some (.ref a.law_cell)
  F_law_cell : ∃ fd, FunD K "_law_cell" "_law_cell" (defArgs s_law_cell) (defBody s_law_cell) (defScope s_law_cell) [] [] a.law_cell fd
  k_law_cell : PySem.W.keepIn K (.ref a.law_cell) = true
  m__law_odd : mg "_law_odd" = some (.ref a.law_odd)
  F_law_odd : ∃ fd, FunD K "_law_odd" "_law_odd" (defArgs s_law_odd) (defBody s_law_odd) (defScope s_law_odd) [] [] a.law_odd fd
  k_law_odd : PySem.W.keepIn K (.ref a.law_odd) = true
  m__law_honest : mg "_law_honest" = some (.ref a.law_honest)
  F_law_honest : ∃ fd, FunD K "_law_honest" "_law_honest" (defArgs s_law_honest) (defBody s_law_honest) (defScope s_law_honest) [] [] a.law_honest fd
  k_law_honest : PySem.W.keepIn K (.ref a.law_honest) = true
  m__law_draws : mg "_law_draws" = some (.ref a.law_draws)
  F_law_draws : ∃ fd, FunD K "_law_draws" "_law_draws" (defArgs s_law_draws) (defBody s_law_draws) (defScope s_law_draws) [] [] a.law_draws fd
  k_law_draws : PySem.W.keepIn K (.ref a.law_draws) = true
  m__law_gcd : mg "_law_gcd" = some (.ref a.law_gcd)
  F_law_gcd : ∃ fd, FunD K "_law_gcd" "_law_gcd" (defArgs s_law_gcd) (defBody s_law_gcd) (defScope s_law_gcd) [] [] a.law_gcd fd
  k_law_gcd : PySem.W.keepIn K (.ref a.law_gcd) = true
  m__law_rat : mg "_law_rat" = some (.ref a.law_rat)
  F_law_rat : ∃ fd, FunD K "_law_rat" "_law_rat" (defArgs s_law_rat) (defBody s_law_rat) (defScope s_law_rat) [] [] a.law_rat fd
  k_law_rat : PySem.W.keepIn K (.ref a.law_rat) = true
  m__law_add : mg "_law_add" = some (.ref a.law_add)
  F_law_add : ∃ fd, FunD K "_law_add" "_law_add" (defArgs s_law_add) (defBody s_law_add) (defScope s_law_add) [] [] a.law_add fd
  k_law_add : PySem.W.keepIn K (.ref a.law_add) = true
  m__law_mul : mg "_law_mul" = some (.ref a.law_mul)
  F_law_mul : ∃ fd, FunD K "_law_mul" "_law_mul" (defArgs s_law_mul) (defBody s_law_mul) (defScope s_law_mul) [] [] a.law_mul fd
  k_law_mul : PySem.W.keepIn K (.ref a.law_mul) = true
  m__law_is_integer : mg "_law_is_integer" = some (.ref a.law_is_integer)
  F_law_is_integer : ∃ fd, FunD K "_law_is_integer" "_law_is_integer" (defArgs s_law_is_integer) (defBody s_law_is_integer) (defScope s_law_is_integer) [] [] a.law_is_integer fd
  k_law_is_integer : PySem.W.keepIn K (.ref a.law_is_integer) = true
  m__law_pair : mg "_law_pair" = some (.ref a.law_pair)
  F_law_pair : ∃ fd, FunD K "_law_pair" "_law_pair" (defArgs s_law_pair) (defBody s_law_pair) (defScope s_law_pair) [] [] a.law_pair fd
  k_law_pair : PySem.W.keepIn K (.ref a.law_pair) = true
  m__law_drawn : mg "_law_drawn" = some (.ref a.law_drawn)
  F_law_drawn : ∃ fd, FunD K "_law_drawn" "_law_drawn" (defArgs s_law_drawn) (defBody s_law_drawn) (defScope s_law_drawn) [] [] a.law_drawn fd
  k_law_drawn : PySem.W.keepIn K (.ref a.law_drawn) = true
  m__law_power : mg "_law_power" = some (.ref a.law_power)
  F_law_power : ∃ fd, FunD K "_law_power" "_law_power" (defArgs s_law_power) (defBody s_law_power) (defScope s_law_power) [] [] a.law_power fd
  k_law_power : PySem.W.keepIn K (.ref a.law_power) = true
  F_Ratio_inverse : ∃ fd, FunD K "inverse" "Ratio.inverse" (defArgs s_Ratio_inverse) (defBody s_Ratio_inverse) (defScope s_Ratio_inverse) [] [] a.Ratio_inverse fd
  k_Ratio_inverse : PySem.W.keepIn K (.ref a.Ratio_inverse) = true
  F_Ratio_over : ∃ fd, FunD K "over" "Ratio.over" (defArgs s_Ratio_over) (defBody s_Ratio_over) (defScope s_Ratio_over) [] [] a.Ratio_over fd
  k_Ratio_over : PySem.W.keepIn K (.ref a.Ratio_over) = true
  F_Ratio_neg : ∃ fd, FunD K "__neg__" "Ratio.__neg__" (defArgs s_Ratio_neg) (defBody s_Ratio_neg) (defScope s_Ratio_neg) [] [] a.Ratio_neg fd
  k_Ratio_neg : PySem.W.keepIn K (.ref a.Ratio_neg) = true
  F_Ratio_power : ∃ fd, FunD K "power" "Ratio.power" (defArgs s_Ratio_power) (defBody s_Ratio_power) (defScope s_Ratio_power) [] [] a.Ratio_power fd
  k_Ratio_power : PySem.W.keepIn K (.ref a.Ratio_power) = true
  m__law_no_inverse : mg "_law_no_inverse" = some (.ref a.law_no_inverse)
  F_law_no_inverse : ∃ fd, FunD K "_law_no_inverse" "_law_no_inverse" (defArgs s_law_no_inverse) (defBody s_law_no_inverse) (defScope s_law_no_inverse) [] [] a.law_no_inverse fd
  k_law_no_inverse : PySem.W.keepIn K (.ref a.law_no_inverse) = true
  F_Ratio_sub : ∃ fd, FunD K "__sub__" "Ratio.__sub__" (defArgs s_Ratio_sub) (defBody s_Ratio_sub) (defScope s_Ratio_sub) [] [] a.Ratio_sub fd
  k_Ratio_sub : PySem.W.keepIn K (.ref a.Ratio_sub) = true
  F_Ratio_mul : ∃ fd, FunD K "__mul__" "Ratio.__mul__" (defArgs s_Ratio_mul) (defBody s_Ratio_mul) (defScope s_Ratio_mul) [] [] a.Ratio_mul fd
  k_Ratio_mul : PySem.W.keepIn K (.ref a.Ratio_mul) = true
  F_Ratio_compare : ∃ fd, FunD K "compare" "Ratio.compare" (defArgs s_Ratio_compare) (defBody s_Ratio_compare) (defScope s_Ratio_compare) [] [] a.Ratio_compare fd
  k_Ratio_compare : PySem.W.keepIn K (.ref a.Ratio_compare) = true
  F_Ratio_sign : ∃ fd, FunD K "sign" "Ratio.sign" (defArgs s_Ratio_sign) (defBody s_Ratio_sign) (defScope s_Ratio_sign) [] [] a.Ratio_sign fd
  k_Ratio_sign : PySem.W.keepIn K (.ref a.Ratio_sign) = true
  F_Ratio_floor : ∃ fd, FunD K "floor" "Ratio.floor" (defArgs s_Ratio_floor) (defBody s_Ratio_floor) (defScope s_Ratio_floor) [] [] a.Ratio_floor fd
  k_Ratio_floor : PySem.W.keepIn K (.ref a.Ratio_floor) = true
  F_Ratio_is_zero : ∃ fd, FunD K "is_zero" "Ratio.is_zero" (defArgs s_Ratio_is_zero) (defBody s_Ratio_is_zero) (defScope s_Ratio_is_zero) [] [] a.Ratio_is_zero fd
  k_Ratio_is_zero : PySem.W.keepIn K (.ref a.Ratio_is_zero) = true
  F_Ratio_whole : ∃ fd, FunD K "whole" "Ratio.whole" (defArgs s_Ratio_whole) (defBody s_Ratio_whole) (defScope s_Ratio_whole) [] [] a.Ratio_whole fd
  k_Ratio_whole : PySem.W.keepIn K (.ref a.Ratio_whole) = true
  m_law : mg "law" = some (.ref a.law)
  F_law : ∃ fd, FunD K "law" "law" (defArgs s_law) (defBody s_law) (defScope s_law) [] [] a.law fd
  k_law : PySem.W.keepIn K (.ref a.law) = true
  m_Fault : mg "Fault" = some (.ref a.Fault)
  m_ZeroDivisor : mg "ZeroDivisor" = some (.ref a.ZeroDivisor)
  m_Ratio : mg "Ratio" = some (.ref a.Ratio)
  m_gcd : mg "gcd" = some (.builtin "math.gcd")
  mk_Ratio : PySem.W.makesIn K a.Ratio = true
  in_Ratio : PySem.W.findIn K (.ref a.Ratio) "__init__" = some (some (.ref a.Ratio_init))
  kc_Ratio : PySem.W.keepIn K (.ref a.Ratio) = true
  xi_ZeroDivisor : PySem.W.excIn K a.ZeroDivisor [.type "ValueError", .type "Exception", .type "BaseException", .type "object"] "ValueError.__new__" = true
  kx_ZeroDivisor : PySem.W.keepIn K (.ref a.ZeroDivisor) = true
  sx_ZeroDivisor : PySem.W.subIn K (.ref a.ZeroDivisor) (.type "BaseException") = some true
  tx_ZeroDivisor : PySem.W.typeIn K (.ref a.ZeroDivisor) = some (.type "type")
  z_isinstance : PySem.W.nsIn K mainGlobals "isinstance" = some none
  is_Ratio_Ratio : PySem.W.kitAny K (.ref a.Ratio) [.ref a.Ratio] = some true
  ca_Ratio : PySem.W.findIn K (.ref a.Ratio) "__class__" = some (some (.builtin "object.__class__"))
  cn_ : PySem.W.specialIn K (.builtin "object.__class__") "__get__" = some (some (.builtin "getset_descriptor.__get__"))
  ct_ : PySem.W.takesIn K (.builtin "object.__class__") = some true
  ob_Ratio : PySem.W.mroIn K a.Ratio (.type "object") = some true
  pg_Ratio : PySem.W.plainGet K a.Ratio Str.empty = true
  hd_Ratio : PySem.W.hasDictIn K a.Ratio = true
  po_Ratio : PySem.W.plainOver K a.Ratio = true
  sa_Ratio : PySem.W.findIn K (.ref a.Ratio) "__setattr__" = some (some (.builtin "object.__setattr__"))
  na_Ratio_n : PySem.W.findIn K (.ref a.Ratio) "n" = some none
  na_Ratio_d : PySem.W.findIn K (.ref a.Ratio) "d" = some none
  is_Ratio_5 : PySem.W.kitAny K (.type "list") [.ref a.Ratio] = some false
  is_Ratio_4 : PySem.W.kitAny K (.type "tuple") [.ref a.Ratio] = some false
  is_Ratio_3 : PySem.W.kitAny K (.type "str") [.ref a.Ratio] = some false
  is_Ratio_2 : PySem.W.kitAny K (.type "int") [.ref a.Ratio] = some false
  is_Ratio_1 : PySem.W.kitAny K (.type "bool") [.ref a.Ratio] = some false
  is_Ratio_0 : PySem.W.kitAny K (.type "NoneType") [.ref a.Ratio] = some false
  op_Ratio_eq : PySem.W.findIn K (.ref a.Ratio) "__eq__" = some (some (.ref a.Ratio_eq))
  fn_Ratio_eq : PySem.W.isFn K (.ref a.Ratio_eq) = true
  ne_Ratio : PySem.W.findIn K (.ref a.Ratio) "__ne__" = some (some (.builtin "object.__ne__"))
  nf_Ratio_0 : PySem.W.notFirst K a.Ratio (.type "NoneType") = true
  nf_Ratio_1 : PySem.W.notFirst K a.Ratio (.type "bool") = true
  nf_Ratio_2 : PySem.W.notFirst K a.Ratio (.type "int") = true
  nf_Ratio_3 : PySem.W.notFirst K a.Ratio (.type "str") = true
  nf_Ratio_4 : PySem.W.notFirst K a.Ratio (.type "tuple") = true
  nf_Ratio_5 : PySem.W.notFirst K a.Ratio (.type "list") = true
  nf_Ratio_Ratio : PySem.W.notFirst K a.Ratio (.ref a.Ratio) = true
  op_Ratio_add : PySem.W.findIn K (.ref a.Ratio) "__add__" = some (some (.ref a.Ratio_add))
  fn_Ratio_add : PySem.W.isFn K (.ref a.Ratio_add) = true
  sf_Ratio : PySem.W.selfFirst K a.Ratio = true
  z_len : PySem.W.nsIn K mainGlobals "len" = some none
  is_tuple_list_Ratio : PySem.W.kitAny K (.ref a.Ratio) [.type "tuple", .type "list"] = some false
  z_list : PySem.W.nsIn K mainGlobals "list" = some none
  z_tuple : PySem.W.nsIn K mainGlobals "tuple" = some none
  z_range : PySem.W.nsIn K mainGlobals "range" = some none
  z_int : PySem.W.nsIn K mainGlobals "int" = some none
  z_abs : PySem.W.nsIn K mainGlobals "abs" = some none
  is_int_Ratio : PySem.W.kitAny K (.ref a.Ratio) [.type "int"] = some false
  is_bool_Ratio : PySem.W.kitAny K (.ref a.Ratio) [.type "bool"] = some false
  z_bool : PySem.W.nsIn K mainGlobals "bool" = some none
  fn_Ratio_inverse : PySem.W.isFn K (.ref a.Ratio_inverse) = true
  me_Ratio_inverse : PySem.W.findIn K (.ref a.Ratio) "inverse" = some (some (.ref a.Ratio_inverse))
  fn_Ratio_power : PySem.W.isFn K (.ref a.Ratio_power) = true
  me_Ratio_power : PySem.W.findIn K (.ref a.Ratio) "power" = some (some (.ref a.Ratio_power))
  op_Ratio_neg : PySem.W.findIn K (.ref a.Ratio) "__neg__" = some (some (.ref a.Ratio_neg))
  fn_Ratio_neg : PySem.W.isFn K (.ref a.Ratio_neg) = true
  em_ZeroDivisor_ZeroDivisor : PySem.W.exmOne K (.ref a.ZeroDivisor) (.ref a.ZeroDivisor) = some true
  em_Fault_ZeroDivisor : PySem.W.exmOne K (.ref a.Fault) (.ref a.ZeroDivisor) = some false
  fn_Ratio_over : PySem.W.isFn K (.ref a.Ratio_over) = true
  me_Ratio_over : PySem.W.findIn K (.ref a.Ratio) "over" = some (some (.ref a.Ratio_over))
  pa_Ratio_whole : PySem.W.findIn K (.ref a.Ratio) "whole" = some (some (.ref a.p_Ratio_whole))
  pb_Ratio_whole : PySem.W.specialIn K (.ref a.p_Ratio_whole) "__get__" = some (some (.builtin "property.__get__"))
  pc_Ratio_whole : PySem.W.takesIn K (.ref a.p_Ratio_whole) = some true
  pd_Ratio_whole : PySem.W.recIn K a.p_Ratio_whole "property" = some (.ref a.Ratio_whole :: a.r_Ratio_whole)
  fn_Ratio_is_zero : PySem.W.isFn K (.ref a.Ratio_is_zero) = true
  me_Ratio_is_zero : PySem.W.findIn K (.ref a.Ratio) "is_zero" = some (some (.ref a.Ratio_is_zero))
  op_Ratio_mul : PySem.W.findIn K (.ref a.Ratio) "__mul__" = some (some (.ref a.Ratio_mul))
  fn_Ratio_mul : PySem.W.isFn K (.ref a.Ratio_mul) = true
  fn_Ratio_floor : PySem.W.isFn K (.ref a.Ratio_floor) = true
  me_Ratio_floor : PySem.W.findIn K (.ref a.Ratio) "floor" = some (some (.ref a.Ratio_floor))
  fn_Ratio_compare : PySem.W.isFn K (.ref a.Ratio_compare) = true
  me_Ratio_compare : PySem.W.findIn K (.ref a.Ratio) "compare" = some (some (.ref a.Ratio_compare))
  fn_Ratio_sign : PySem.W.isFn K (.ref a.Ratio_sign) = true
  me_Ratio_sign : PySem.W.findIn K (.ref a.Ratio) "sign" = some (some (.ref a.Ratio_sign))
  op_Ratio_sub : PySem.W.findIn K (.ref a.Ratio) "__sub__" = some (some (.ref a.Ratio_sub))
  fn_Ratio_sub : PySem.W.isFn K (.ref a.Ratio_sub) = true
  fn_Ratio_init : PySem.W.isFn K (.ref a.Ratio_init) = true
section
variable {K : PySem.W.Frag} {mg : Str → Option Value} {a : Ad} {w : World} {base : Heap}
theorem cl_Ratio (H : Facts K mg a) : Cls K ((TT K a).cl 0) := ⟨H.pg_Ratio, H.hd_Ratio, H.po_Ratio, H.sa_Ratio⟩
theorem cf_Ratio (H : Facts K mg a) : ClsF K (TT K a) 0 := by
  refine ⟨cl_Ratio H, fun f h => ?_, (by decide +kernel : (["n", "d"] : List Str).Nodup), by show 2 < 900; decide⟩
  have h' : f ∈ [("n" : Str), ("d" : Str)] := h
  simp only [List.mem_cons, List.mem_nil_iff, or_false] at h'
  rcases h' with rfl | rfl
  · exact H.na_Ratio_n
  · exact H.na_Ratio_d
theorem ci_Ratio (H : Facts K mg a) : ClsI K (TT K a) 0 := ⟨H.ca_Ratio, H.cn_, H.ct_, H.ob_Ratio⟩
theorem mk_Ratio (H : Facts K mg a) : Mk K ((TT K a).cl 0) a.Ratio_init := ⟨H.mk_Ratio, H.in_Ratio, H.fn_Ratio_init, H.kc_Ratio⟩
theorem nf_Ratio (H : Facts K mg a) : ∀ n ∈ [0, 1, 2, 3, 4, 5, 10], n ≠ 6 ∧ PySem.W.notFirst K ((TT K a).cl 0) (kTy (TT K a) n) = true ∧ ∀ c', n = 10 + c' → ClsI K (TT K a) c' ∧ Cls K ((TT K a).cl c') := by
  intro n h
  simp only [List.mem_cons, List.mem_nil_iff, or_false] at h
  rcases h with rfl | rfl | rfl | rfl | rfl | rfl | rfl
  · exact ⟨by decide, H.nf_Ratio_0, fun c e => by omega⟩
  · exact ⟨by decide, H.nf_Ratio_1, fun c e => by omega⟩
  · exact ⟨by decide, H.nf_Ratio_2, fun c e => by omega⟩
  · exact ⟨by decide, H.nf_Ratio_3, fun c e => by omega⟩
  · exact ⟨by decide, H.nf_Ratio_4, fun c e => by omega⟩
  · exact ⟨by decide, H.nf_Ratio_5, fun c e => by omega⟩
  · exact ⟨by decide, H.nf_Ratio_Ratio, fun c e => by have : c = 0 := by omega
                                                      subst this; exact ⟨ci_Ratio H, cl_Ratio H⟩⟩
theorem ex_ZeroDivisor {X : Cx} (H : Facts X.K mg a) : ExcF X (TT X.K a) 1 := ⟨⟨_, _, _, _, PySem.F.excBase_ValueError, H.xi_ZeroDivisor⟩, H.kx_ZeroDivisor, raises_own H.sx_ZeroDivisor H.tx_ZeroDivisor, rfl⟩
theorem S_Ratio_eq : FnScope N_Ratio_eq ["self", "other"] (defScope s_Ratio_eq) := ⟨rfl, rfl, rfl, by decide +kernel, rfl, by decide +kernel, by decide +kernel⟩
theorem o_Ratio_eq (H : Facts K mg a) : ∃ fd, FunD K "__eq__" "Ratio.__eq__" (defArgs s_Ratio_eq) (defBody s_Ratio_eq) (defScope s_Ratio_eq) [] [] a.Ratio_eq fd ∧ FnOk PP w K mg base (L2.CX PP w) 2 a.Ratio_eq fd ["self", "other"] (sp (TT K a) φ_Ratio_eq) := by
  obtain ⟨fd, F⟩ := H.F_Ratio_eq
  refine ⟨fd, F, fn_d F S_Ratio_eq fun cdv A outer s H0 E hr => ?_⟩
  exact (sss_one (ss_ret (se_and (se_isi rfl (isi_c (n := 0) H.is_Ratio_0 (isi_c (n := 1) H.is_Ratio_1 (isi_c (n := 2) H.is_Ratio_2 (isi_c (n := 3) H.is_Ratio_3 (isi_c (n := 4) H.is_Ratio_4 (isi_c (n := 5) H.is_Ratio_5 (isi_o (ci_Ratio H) (cl_Ratio H) H.is_Ratio_Ratio isi_0))))))) (.own _) (zz H.hG H.z_isinstance) (se_v 1) (pe_glob rfl H.m_Ratio rfl)) (se_and (se_cmp (o_eq rfl hr.units) (se_fld (fldF_c (cf_Ratio H) fldF_0) (se_v 0)) (se_fld (fldF_c (cf_Ratio H) fldF_0) (se_v 1)) (nomark _)) (se_one (se_cmp (o_eq rfl hr.units) (se_fld (fldF_c (cf_Ratio H) fldF_0) (se_v 0)) (se_fld (fldF_c (cf_Ratio H) fldF_0) (se_v 1)) (nomark _)))))))
theorem c_Ratio_eq (H : Facts K mg a) : FnC PP w K mg base (TT K a) 2 φ_Ratio_eq [] a.Ratio_eq := by
  obtain ⟨fd, F, ok⟩ := o_Ratio_eq (w := w) (base := base) H
  exact fnc_all F ok fun _ _ _ _ _ _ us h => match us, h with | [_, _], _ => rfl
theorem S_Ratio_init : FnScope N_Ratio_init ["self", "n", "d"] (defScope s_Ratio_init) := ⟨rfl, rfl, rfl, by decide +kernel, rfl, by decide +kernel, by decide +kernel⟩
theorem o_Ratio_init (H : Facts K mg a) : ∃ fd, FunD K "__init__" "Ratio.__init__" (defArgs s_Ratio_init) (defBody s_Ratio_init) (defScope s_Ratio_init) [V.int 1] [] a.Ratio_init fd ∧ FnOk PP w K mg base (L2.CX PP w) 41 a.Ratio_init fd ["self", "n", "d"] (sp (TT K a) φ_Ratio_init) := by
  obtain ⟨fd, F⟩ := H.F_Ratio_init
  refine ⟨fd, F, fn_d F S_Ratio_init fun cdv A outer s H0 E hr => ?_⟩
  exact (sss_cons (ss_if (st_cmpE rfl (eqM_go rfl (takes_of rfl rfl rfl rfl) (ownEqs_c ⟨⟨_, _, (c_Ratio_eq H), (hr.mono (by decide)), H.op_Ratio_eq, H.fn_Ratio_eq⟩, nf_Ratio H, H.ne_Ratio, H.ob_Ratio⟩ ownEqs_0) (.inl ⟨rfl, rfl⟩) ((o_eqX rfl hr.units0).or (o_eq rfl hr.units))) (se_v 2) se_int (nomark _)) (sss_one (ss_raise rfl (takes_of rfl rfl rfl rfl) (ex_ZeroDivisor H) H.m_ZeroDivisor)) sss_nil)
(sss_cons (ss_set (i := 3) S_Ratio_init.nd (se_if (st_cmp rfl o_gt (se_v 2) se_int (nomark _)) (se_bim b_gcd H.m_gcd (sa_d (se_v 1) (sa_d (se_v 2) sa_0))) (se_neg (se_bim b_gcd H.m_gcd (sa_d (se_v 1) (sa_d (se_v 2) sa_0))))))
(sss_cons (ss_fld0 (k := 0) 0 (cf_Ratio H) (se_bin (o_div ⟨H.sk, rfl, ⟨_, _, rfl, rfl, rfl, rfl, rfl⟩, (hr.mono (by decide))⟩) (se_v 1) (se_v 3)))
(sss_one (ss_fld0 (k := 1) 0 (cf_Ratio H) (se_bin (o_div ⟨H.sk, rfl, ⟨_, _, rfl, rfl, rfl, rfl, rfl⟩, (hr.mono (by decide))⟩) (se_v 2) (se_v 3)))))))
theorem c_Ratio_init (H : Facts K mg a) : FnC PP w K mg base (TT K a) 41 φ_Ratio_init [] a.Ratio_init := by
  obtain ⟨fd, F, ok⟩ := o_Ratio_init (w := w) (base := base) H
  exact fnc_dfl F ok 3 1 (fun z => nomatch z) rfl (fun _ => .nil) fun _ _ _ _ _ _ _ us its h1 h2 => match us, its, h1, h2 with | [_, _, _], [_], _, _ => ⟨_, rfl, rfl⟩
theorem c1_Ratio_init (H : Facts K mg a) : FnC PP w K mg base (TT K a) 41 φ_Ratio_init [(.int 1)] a.Ratio_init := by
  obtain ⟨fd, F, ok⟩ := o_Ratio_init (w := w) (base := base) H
  exact fnc_dfl F ok 2 0 (fun z => nomatch z) rfl (fun _ => (.cons (.int _) .nil)) fun _ _ _ _ _ _ _ us its h1 h2 => match us, its, h1, h2 with | [_, _], [_], _, _ => ⟨_, rfl, rfl⟩
theorem S_Ratio_add : FnScope N_Ratio_add ["self", "other"] (defScope s_Ratio_add) := ⟨rfl, rfl, rfl, by decide +kernel, rfl, by decide +kernel, by decide +kernel⟩
theorem o_Ratio_add (H : Facts K mg a) : ∃ fd, FunD K "__add__" "Ratio.__add__" (defArgs s_Ratio_add) (defBody s_Ratio_add) (defScope s_Ratio_add) [] [] a.Ratio_add fd ∧ FnOk PP w K mg base (L2.CX PP w) 44 a.Ratio_add fd ["self", "other"] (sp (TT K a) φ_Ratio_add) := by
  obtain ⟨fd, F⟩ := H.F_Ratio_add
  refine ⟨fd, F, fn_d F S_Ratio_add fun cdv A outer s H0 E hr => ?_⟩
  exact (sss_one (ss_ret (se_make rfl (mk_Ratio H) (c_Ratio_init H) H.m_Ratio (hr.mono (by decide)) (takes_of rfl rfl rfl rfl) (sa_d (se_bin (o_add rfl) (se_bin o_mul (se_fld (fldF_c (cf_Ratio H) fldF_0) (se_v 0)) (se_fld (fldF_c (cf_Ratio H) fldF_0) (se_v 1))) (se_bin o_mul (se_fld (fldF_c (cf_Ratio H) fldF_0) (se_v 1)) (se_fld (fldF_c (cf_Ratio H) fldF_0) (se_v 0)))) (sa_d (se_bin o_mul (se_fld (fldF_c (cf_Ratio H) fldF_0) (se_v 0)) (se_fld (fldF_c (cf_Ratio H) fldF_0) (se_v 1))) sa_0)))))
theorem c_Ratio_add (H : Facts K mg a) : FnC PP w K mg base (TT K a) 44 φ_Ratio_add [] a.Ratio_add := by
  obtain ⟨fd, F, ok⟩ := o_Ratio_add (w := w) (base := base) H
  exact fnc_all F ok fun _ _ _ _ _ _ us h => match us, h with | [_, _], _ => rfl
theorem S_total : FnScope N_total ["numbers"] (defScope s_total) := ⟨rfl, rfl, rfl, by decide +kernel, rfl, by decide +kernel, by decide +kernel⟩
theorem o_total (H : Facts K mg a) : ∃ fd, FunD K "total" "total" (defArgs s_total) (defBody s_total) (defScope s_total) [] [] a.total fd ∧ FnOk PP w K mg base (L2.CX PP w) 47 a.total fd ["numbers"] (sp (TT K a) φ_total) := by
  obtain ⟨fd, F⟩ := H.F_total
  refine ⟨fd, F, fn_d F S_total fun cdv A outer s H0 E hr => ?_⟩
  exact (sss_cons (ss_set (i := 1) S_total.nd (se_make rfl (mk_Ratio H) (c1_Ratio_init H) H.m_Ratio (hr.mono (by decide)) (takes_of rfl rfl rfl rfl) (sa_d se_int sa_0)))
(sss_cons (ss_for (passes_of rfl) rfl (si_d rfl (se_v 0)) (sg_n (i := 2) S_total.nd) (sss_one (ss_set (i := 1) S_total.nd (se_binE (oe_own (takes_of rfl rfl rfl rfl) (o_add rfl) (ownOps_c ⟨⟨_, _, (c_Ratio_add H), (hr.mono (by decide)), H.op_Ratio_add, H.fn_Ratio_add⟩, H.sf_Ratio⟩ ownOps_0)) (se_v 1) (se_v 2)))))
(sss_one (ss_ret (se_v 1)))))
theorem c_total (H : Facts K mg a) : FnC PP w K mg base (TT K a) 47 φ_total [] a.total := by
  obtain ⟨fd, F, ok⟩ := o_total (w := w) (base := base) H
  exact fnc_all F ok fun _ _ _ _ _ _ us h => match us, h with | [_], _ => rfl
theorem S_law_cell : FnScope N_law_cell ["script", "k"] (defScope s_law_cell) := ⟨rfl, rfl, rfl, by decide +kernel, rfl, by decide +kernel, by decide +kernel⟩
theorem o_law_cell (H : Facts K mg a) : ∃ fd, FunD K "_law_cell" "_law_cell" (defArgs s_law_cell) (defBody s_law_cell) (defScope s_law_cell) [] [] a.law_cell fd ∧ FnOk PP w K mg base (L2.CX PP w) 2 a.law_cell fd ["script", "k"] (sp (TT K a) φ_law_cell) := by
  obtain ⟨fd, F⟩ := H.F_law_cell
  refine ⟨fd, F, fn_d F S_law_cell fun cdv A outer s H0 E hr => ?_⟩
  exact (sss_cons (ss_if (st_cmp rfl o_lt (se_v 1) (se_bif (b_len rfl) (zz H.hG H.z_len) (sa_d (se_v 0) sa_0)) (nomark _)) (sss_one (ss_ret (se_ix rfl (se_v 0) (se_v 1)))) sss_nil)
(sss_one (ss_ret se_int)))
theorem c_law_cell (H : Facts K mg a) : FnC PP w K mg base (TT K a) 2 φ_law_cell [] a.law_cell := by
  obtain ⟨fd, F, ok⟩ := o_law_cell (w := w) (base := base) H
  exact fnc_all F ok fun _ _ _ _ _ _ us h => match us, h with | [_, _], _ => rfl
theorem S_law_odd : FnScope N_law_odd ["value"] (defScope s_law_odd) := ⟨rfl, rfl, rfl, by decide +kernel, rfl, by decide +kernel, by decide +kernel⟩
theorem o_law_odd (H : Facts K mg a) : ∀ n, ∃ fd, FunD K "_law_odd" "_law_odd" (defArgs s_law_odd) (defBody s_law_odd) (defScope s_law_odd) [] [] a.law_odd fd ∧ FnOk PP w K mg base (L2.CX PP w) (4 + n) a.law_odd fd ["value"] (sp (TT K a) (φn_law_odd n))
  | 0 => let ⟨fd, F⟩ := H.F_law_odd; ⟨fd, F, fn_no F _⟩
  | n + 1 => by
    obtain ⟨fd, F, ok⟩ := o_law_odd H n
    have Fr : FnC PP w K mg base (TT K a) (4 + n) (φn_law_odd n) [] a.law_odd := fnc_all F ok fun _ _ _ _ _ _ us h => match us, h with | [_], _ => rfl
    refine ⟨fd, F, fn_d F S_law_odd fun cdv A outer s H0 E hr => ?_⟩
    exact (sss_cons (ss_if (st_cmpE rfl (eqM_go rfl (takes_of rfl rfl rfl rfl) (ownEqs_c ⟨⟨_, _, (c_Ratio_eq H), (hr.mono (Nat.le_trans (show 3 ≤ 4 by decide) (Nat.le_add_right 4 n))), H.op_Ratio_eq, H.fn_Ratio_eq⟩, nf_Ratio H, H.ne_Ratio, H.ob_Ratio⟩ ownEqs_0) (.inl ⟨rfl, rfl⟩) ((o_eqX rfl hr.units0).or (o_eq rfl hr.units))) (se_v 0) se_str (nomark _)) (sss_one (ss_ret se_bl)) sss_nil)
(sss_one (ss_ret (se_and (se_isiT (cs := [.ty "tuple", .ty "list"]) (us := [.type "tuple", .type "list"]) rfl (isi_c (n := 0) (kit_tys (cs := ["tuple", "list"]) (by decide +kernel)) (isi_c (n := 1) (kit_tys (cs := ["tuple", "list"]) (by decide +kernel)) (isi_c (n := 2) (kit_tys (cs := ["tuple", "list"]) (by decide +kernel)) (isi_c (n := 3) (kit_tys (cs := ["tuple", "list"]) (by decide +kernel)) (isi_c (n := 4) (kit_tys (cs := ["tuple", "list"]) (by decide +kernel)) (isi_c (n := 5) (kit_tys (cs := ["tuple", "list"]) (by decide +kernel)) (isi_o (ci_Ratio H) (cl_Ratio H) H.is_tuple_list_Ratio isi_0))))))) (.cons (.ty _) (.cons (.ty _) .nil)) (zz H.hG H.z_isinstance) (se_v 0) (pa_cons (pe_bltn (v := .ty "tuple") rfl (zz H.hG H.z_tuple) (by decide +kernel : bootBuiltins "tuple" = some (.type "tuple")) rfl) (pa_cons (pe_bltn (v := .ty "list") rfl (zz H.hG H.z_list) (by decide +kernel : bootBuiltins "list" = some (.type "list")) rfl) pa_nil))) (se_one (se_cmp o_gt (se_bif (b_len rfl) (zz H.hG H.z_len) (sa_d (se_lc rfl S_law_odd.nd (si_d rfl (se_v 0)) (blkOk_by (N := N_law_odd) (own := [("item", 1)]) (sc := defScope s_law_odd) (by decide +kernel)) (fun _ _ _ _ _ => (sg_n (i := 1) S_law_odd.nd)) (fun _ _ _ _ _ => (sts_1 (st_tr rfl (se_call Fr H.m__law_odd hr takes0 (sa_d (se_v 1) sa_0))))) (fun _ _ _ _ _ => (se_v 1))) sa_0)) se_int (nomark _)))))))
theorem c_law_odd (H : Facts K mg a) : FnC PP w K mg base (TT K a) 10 φ_law_odd [] a.law_odd := by
  obtain ⟨fd, F, ok⟩ := o_law_odd (w := w) (base := base) H 5
  exact fnc_all F (FnOkMono ok (by decide)) fun _ _ _ _ _ _ us h => match us, h with | [_], _ => rfl
theorem S_law_honest : FnScope N_law_honest ["value"] (defScope s_law_honest) := ⟨rfl, rfl, rfl, by decide +kernel, rfl, by decide +kernel, by decide +kernel⟩
theorem o_law_honest (H : Facts K mg a) : ∃ fd, FunD K "_law_honest" "_law_honest" (defArgs s_law_honest) (defBody s_law_honest) (defScope s_law_honest) [] [] a.law_honest fd ∧ FnOk PP w K mg base (L2.CX PP w) 13 a.law_honest fd ["value"] (sp (TT K a) φ_law_honest) := by
  obtain ⟨fd, F⟩ := H.F_law_honest
  refine ⟨fd, F, fn_d F S_law_honest fun cdv A outer s H0 E hr => ?_⟩
  exact (sss_one (ss_ret (se_if (st_tr rfl (se_call (c_law_odd H) H.m__law_odd (hr.mono (by decide)) (takes_of rfl rfl rfl rfl) (sa_d (se_v 0) sa_0))) se_str (se_v 0))))
theorem c_law_honest (H : Facts K mg a) : FnC PP w K mg base (TT K a) 13 φ_law_honest [] a.law_honest := by
  obtain ⟨fd, F, ok⟩ := o_law_honest (w := w) (base := base) H
  exact fnc_all F ok fun _ _ _ _ _ _ us h => match us, h with | [_], _ => rfl
theorem S_law_draws : FnScope N_law_draws ["script", "at", "count", "bound"] (defScope s_law_draws) := ⟨rfl, rfl, rfl, by decide +kernel, rfl, by decide +kernel, by decide +kernel⟩
theorem o_law_draws (H : Facts K mg a) : ∃ fd, FunD K "_law_draws" "_law_draws" (defArgs s_law_draws) (defBody s_law_draws) (defScope s_law_draws) [] [] a.law_draws fd ∧ FnOk PP w K mg base (L2.CX PP w) 41 a.law_draws fd ["script", "at", "count", "bound"] (sp (TT K a) φ_law_draws) := by
  obtain ⟨fd, F⟩ := H.F_law_draws
  refine ⟨fd, F, fn_d F S_law_draws fun cdv A outer s H0 E hr => ?_⟩
  exact (sss_cons (ss_set (i := 4) S_law_draws.nd (se_call (c_law_cell H) H.m__law_cell (hr.mono (by decide)) (takes_of rfl rfl rfl rfl) (sa_d (se_v 0) (sa_d (se_v 1) sa_0))))
(sss_cons (ss_setO (i := 5) S_law_draws.nd (se_lst sa_0))
(sss_cons (ss_if (st_cmp rfl o_ge (se_v 4) (se_bin o_powI se_int se_int) (nomark _)) (sss_cons (ss_for (passes_of rfl) rfl (si_r1 rfl (zz H.hG H.z_range) (sa_d (se_v 2) sa_0)) (sg_n (i := 6) S_law_draws.nd) (sss_cons (ss_expr (se_app 5 (se_bin o_modI (se_bit b_int (zz H.hG H.z_int) (sa_d (se_v 4) sa_0)) (se_v 3))))
(sss_one (ss_set (i := 4) S_law_draws.nd (se_bin (o_div ⟨H.sk, rfl, ⟨_, _, rfl, rfl, rfl, rfl, rfl⟩, (hr.mono (by decide))⟩) (se_bit b_int (zz H.hG H.z_int) (sa_d (se_v 4) sa_0)) (se_v 3))))))
(sss_one (ss_retO 5))) sss_nil)
(sss_cons (ss_set (i := 7) S_law_draws.nd (se_bin (o_add rfl) (se_bin (o_add rfl) (se_bin o_modI (se_bit b_int (zz H.hG H.z_int) (sa_d (se_v 4) sa_0)) se_int) (se_bin o_mul se_int (se_v 1))) se_int))
(sss_cons (ss_for (passes_of rfl) rfl (si_r1 rfl (zz H.hG H.z_range) (sa_d (se_v 2) sa_0)) (sg_n (i := 6) S_law_draws.nd) (sss_cons (ss_set (i := 7) S_law_draws.nd (se_bin o_modI (se_bit b_int (zz H.hG H.z_int) (sa_d (se_bin (o_add rfl) (se_bin (o_add rfl) (se_bin o_mul (se_v 7) se_int) (se_bin o_mul se_int (se_v 6))) (se_v 1)) sa_0)) se_int))
(sss_cons (ss_set (i := 8) S_law_draws.nd (se_bin o_modI (se_bit b_int (zz H.hG H.z_int) (sa_d (se_bin (o_add rfl) (se_bin (o_add rfl) (se_bin o_mul (se_v 7) se_int) (se_bin o_mul se_int (se_v 6))) se_int) sa_0)) se_int))
(sss_one (ss_expr (se_app 5 (se_bin o_modI (se_bit b_int (zz H.hG H.z_int) (sa_d (se_v 8) sa_0)) (se_v 3))))))))
(sss_one (ss_retO 5)))))))
theorem c_law_draws (H : Facts K mg a) : FnC PP w K mg base (TT K a) 41 φ_law_draws [] a.law_draws := by
  obtain ⟨fd, F, ok⟩ := o_law_draws (w := w) (base := base) H
  exact fnc_all F ok fun _ _ _ _ _ _ us h => match us, h with | [_, _, _, _], _ => rfl
theorem S_law_gcd : FnScope N_law_gcd ["a", "b"] (defScope s_law_gcd) := ⟨rfl, rfl, rfl, by decide +kernel, rfl, by decide +kernel, by decide +kernel⟩
theorem o_law_gcd (H : Facts K mg a) : ∃ fd, FunD K "_law_gcd" "_law_gcd" (defArgs s_law_gcd) (defBody s_law_gcd) (defScope s_law_gcd) [] [] a.law_gcd fd ∧ FnOk PP w K mg base (L2.CX PP w) 2 a.law_gcd fd ["a", "b"] (sp (TT K a) φ_law_gcd) := by
  obtain ⟨fd, F⟩ := H.F_law_gcd
  refine ⟨fd, F, fn_d F S_law_gcd fun cdv A outer s H0 E hr => ?_⟩
  exact (sss_cons (ss_set (i := 2) S_law_gcd.nd (se_bif b_abs (zz H.hG H.z_abs) (sa_d (se_v 0) sa_0)))
(sss_cons (ss_set (i := 3) S_law_gcd.nd (se_bif b_abs (zz H.hG H.z_abs) (sa_d (se_v 1) sa_0)))
(sss_cons (ss_while fuelE (passes_of rfl) (st_cmp rfl (o_ne rfl hr.units) (se_v 3) se_int (nomark _)) (sss_cons (ss_set (i := 4) S_law_gcd.nd (se_bin o_modI (se_bit b_int (zz H.hG H.z_int) (sa_d (se_v 2) sa_0)) (se_v 3)))
(sss_cons (ss_set (i := 2) S_law_gcd.nd (se_v 3))
(sss_one (ss_set (i := 3) S_law_gcd.nd (se_v 4))))))
(sss_one (ss_ret (se_v 2))))))
theorem c_law_gcd (H : Facts K mg a) : FnC PP w K mg base (TT K a) 2 φ_law_gcd [] a.law_gcd := by
  obtain ⟨fd, F, ok⟩ := o_law_gcd (w := w) (base := base) H
  exact fnc_all F ok fun _ _ _ _ _ _ us h => match us, h with | [_, _], _ => rfl
theorem S_law_rat : FnScope N_law_rat ["n", "d"] (defScope s_law_rat) := ⟨rfl, rfl, rfl, by decide +kernel, rfl, by decide +kernel, by decide +kernel⟩
theorem o_law_rat (H : Facts K mg a) : ∃ fd, FunD K "_law_rat" "_law_rat" (defArgs s_law_rat) (defBody s_law_rat) (defScope s_law_rat) [] [] a.law_rat fd ∧ FnOk PP w K mg base (L2.CX PP w) 41 a.law_rat fd ["n", "d"] (sp (TT K a) φ_law_rat) := by
  obtain ⟨fd, F⟩ := H.F_law_rat
  refine ⟨fd, F, fn_d F S_law_rat fun cdv A outer s H0 E hr => ?_⟩
  exact (sss_cons (ss_set (i := 2) S_law_rat.nd (se_call (c_law_gcd H) H.m__law_gcd (hr.mono (by decide)) (takes_of rfl rfl rfl rfl) (sa_d (se_v 0) (sa_d (se_v 1) sa_0))))
(sss_cons (ss_if (st_cmp rfl o_lt (se_v 1) se_int (nomark _)) (sss_one (ss_set (i := 2) S_law_rat.nd (se_neg (se_v 2)))) sss_nil)
(sss_one (ss_ret (se_tup (sa_d (se_bin (o_div ⟨H.sk, rfl, ⟨_, _, rfl, rfl, rfl, rfl, rfl⟩, (hr.mono (by decide))⟩) (se_v 0) (se_v 2)) (sa_d (se_bin (o_div ⟨H.sk, rfl, ⟨_, _, rfl, rfl, rfl, rfl, rfl⟩, (hr.mono (by decide))⟩) (se_v 1) (se_v 2)) sa_0)))))))
theorem c_law_rat (H : Facts K mg a) : FnC PP w K mg base (TT K a) 41 φ_law_rat [] a.law_rat := by
  obtain ⟨fd, F, ok⟩ := o_law_rat (w := w) (base := base) H
  exact fnc_all F ok fun _ _ _ _ _ _ us h => match us, h with | [_, _], _ => rfl
theorem S_law_add : FnScope N_law_add ["a", "b"] (defScope s_law_add) := ⟨rfl, rfl, rfl, by decide +kernel, rfl, by decide +kernel, by decide +kernel⟩
theorem o_law_add (H : Facts K mg a) : ∃ fd, FunD K "_law_add" "_law_add" (defArgs s_law_add) (defBody s_law_add) (defScope s_law_add) [] [] a.law_add fd ∧ FnOk PP w K mg base (L2.CX PP w) 44 a.law_add fd ["a", "b"] (sp (TT K a) φ_law_add) := by
  obtain ⟨fd, F⟩ := H.F_law_add
  refine ⟨fd, F, fn_d F S_law_add fun cdv A outer s H0 E hr => ?_⟩
  exact (sss_one (ss_ret (se_call (c_law_rat H) H.m__law_rat (hr.mono (by decide)) (takes_of rfl rfl rfl rfl) (sa_d (se_bin (o_add rfl) (se_bin o_mul (se_ix rfl (se_v 0) se_int) (se_ix rfl (se_v 1) se_int)) (se_bin o_mul (se_ix rfl (se_v 1) se_int) (se_ix rfl (se_v 0) se_int))) (sa_d (se_bin o_mul (se_ix rfl (se_v 0) se_int) (se_ix rfl (se_v 1) se_int)) sa_0)))))
theorem c_law_add (H : Facts K mg a) : FnC PP w K mg base (TT K a) 44 φ_law_add [] a.law_add := by
  obtain ⟨fd, F, ok⟩ := o_law_add (w := w) (base := base) H
  exact fnc_all F ok fun _ _ _ _ _ _ us h => match us, h with | [_, _], _ => rfl
theorem S_law_mul : FnScope N_law_mul ["a", "b"] (defScope s_law_mul) := ⟨rfl, rfl, rfl, by decide +kernel, rfl, by decide +kernel, by decide +kernel⟩
theorem o_law_mul (H : Facts K mg a) : ∃ fd, FunD K "_law_mul" "_law_mul" (defArgs s_law_mul) (defBody s_law_mul) (defScope s_law_mul) [] [] a.law_mul fd ∧ FnOk PP w K mg base (L2.CX PP w) 44 a.law_mul fd ["a", "b"] (sp (TT K a) φ_law_mul) := by
  obtain ⟨fd, F⟩ := H.F_law_mul
  refine ⟨fd, F, fn_d F S_law_mul fun cdv A outer s H0 E hr => ?_⟩
  exact (sss_one (ss_ret (se_call (c_law_rat H) H.m__law_rat (hr.mono (by decide)) (takes_of rfl rfl rfl rfl) (sa_d (se_bin o_mul (se_ix rfl (se_v 0) se_int) (se_ix rfl (se_v 1) se_int)) (sa_d (se_bin o_mul (se_ix rfl (se_v 0) se_int) (se_ix rfl (se_v 1) se_int)) sa_0)))))
theorem c_law_mul (H : Facts K mg a) : FnC PP w K mg base (TT K a) 44 φ_law_mul [] a.law_mul := by
  obtain ⟨fd, F, ok⟩ := o_law_mul (w := w) (base := base) H
  exact fnc_all F ok fun _ _ _ _ _ _ us h => match us, h with | [_, _], _ => rfl
theorem S_law_is_integer : FnScope N_law_is_integer ["value"] (defScope s_law_is_integer) := ⟨rfl, rfl, rfl, by decide +kernel, rfl, by decide +kernel, by decide +kernel⟩
theorem o_law_is_integer (H : Facts K mg a) : ∃ fd, FunD K "_law_is_integer" "_law_is_integer" (defArgs s_law_is_integer) (defBody s_law_is_integer) (defScope s_law_is_integer) [] [] a.law_is_integer fd ∧ FnOk PP w K mg base (L2.CX PP w) 2 a.law_is_integer fd ["value"] (sp (TT K a) φ_law_is_integer) := by
  obtain ⟨fd, F⟩ := H.F_law_is_integer
  refine ⟨fd, F, fn_d F S_law_is_integer fun cdv A outer s H0 E hr => ?_⟩
  exact (sss_one (ss_ret (se_and (se_isi rfl (isi_c (n := 0) (kit_tys (cs := ["int"]) (by decide +kernel)) (isi_c (n := 1) (kit_tys (cs := ["int"]) (by decide +kernel)) (isi_c (n := 2) (kit_tys (cs := ["int"]) (by decide +kernel)) (isi_c (n := 3) (kit_tys (cs := ["int"]) (by decide +kernel)) (isi_c (n := 4) (kit_tys (cs := ["int"]) (by decide +kernel)) (isi_c (n := 5) (kit_tys (cs := ["int"]) (by decide +kernel)) (isi_o (ci_Ratio H) (cl_Ratio H) H.is_int_Ratio isi_0))))))) (.ty _) (zz H.hG H.z_isinstance) (se_v 0) (pe_bltn (v := .ty "int") rfl (zz H.hG H.z_int) (by decide +kernel : bootBuiltins "int" = some (.type "int")) rfl)) (se_one (se_not (se_isi rfl (isi_c (n := 0) (kit_tys (cs := ["bool"]) (by decide +kernel)) (isi_c (n := 1) (kit_tys (cs := ["bool"]) (by decide +kernel)) (isi_c (n := 2) (kit_tys (cs := ["bool"]) (by decide +kernel)) (isi_c (n := 3) (kit_tys (cs := ["bool"]) (by decide +kernel)) (isi_c (n := 4) (kit_tys (cs := ["bool"]) (by decide +kernel)) (isi_c (n := 5) (kit_tys (cs := ["bool"]) (by decide +kernel)) (isi_o (ci_Ratio H) (cl_Ratio H) H.is_bool_Ratio isi_0))))))) (.ty _) (zz H.hG H.z_isinstance) (se_v 0) (pe_bltn (v := .ty "bool") rfl (zz H.hG H.z_bool) (by decide +kernel : bootBuiltins "bool" = some (.type "bool")) rfl)))))))
theorem c_law_is_integer (H : Facts K mg a) : FnC PP w K mg base (TT K a) 2 φ_law_is_integer [] a.law_is_integer := by
  obtain ⟨fd, F, ok⟩ := o_law_is_integer (w := w) (base := base) H
  exact fnc_all F ok fun _ _ _ _ _ _ us h => match us, h with | [_], _ => rfl
theorem S_law_pair : FnScope N_law_pair ["value"] (defScope s_law_pair) := ⟨rfl, rfl, rfl, by decide +kernel, rfl, by decide +kernel, by decide +kernel⟩
theorem o_law_pair (H : Facts K mg a) : ∃ fd, FunD K "_law_pair" "_law_pair" (defArgs s_law_pair) (defBody s_law_pair) (defScope s_law_pair) [] [] a.law_pair fd ∧ FnOk PP w K mg base (L2.CX PP w) 5 a.law_pair fd ["value"] (sp (TT K a) φ_law_pair) := by
  obtain ⟨fd, F⟩ := H.F_law_pair
  refine ⟨fd, F, fn_d F S_law_pair fun cdv A outer s H0 E hr => ?_⟩
  exact (sss_cons (ss_if (SW.st (sw_or (st_not (st_tr rfl (se_isi rfl (isi_c (n := 0) H.is_Ratio_0 (isi_c (n := 1) H.is_Ratio_1 (isi_c (n := 2) H.is_Ratio_2 (isi_c (n := 3) H.is_Ratio_3 (isi_c (n := 4) H.is_Ratio_4 (isi_c (n := 5) H.is_Ratio_5 (isi_o (ci_Ratio H) (cl_Ratio H) H.is_Ratio_Ratio isi_0))))))) (.own _) (zz H.hG H.z_isinstance) (se_v 0) (pe_glob rfl H.m_Ratio rfl)))) (sw_or (st_not (st_tr rfl (se_call (c_law_is_integer H) H.m__law_is_integer (hr.mono (by decide)) (takes_of rfl rfl rfl rfl) (sa_d (se_fld (fldF_c (cf_Ratio H) fldF_0) (se_v 0)) sa_0)))) (sw_or1 (st_not (st_tr rfl (se_call (c_law_is_integer H) H.m__law_is_integer (hr.mono (by decide)) (takes_of rfl rfl rfl rfl) (sa_d (se_fld (fldF_c (cf_Ratio H) fldF_0) (se_v 0)) sa_0)))))))) (sss_one (ss_ret se_non)) sss_nil)
(sss_cons (ss_if (SW.st (sw_or (st_cmp rfl o_lt (se_fld (fldF_c (cf_Ratio H) fldF_0) (se_v 0)) se_int (nomark _)) (sw_or1 (st_cmp rfl (o_ne rfl hr.units) (se_call (c_law_gcd H) H.m__law_gcd (hr.mono (by decide)) (takes_of rfl rfl rfl rfl) (sa_d (se_fld (fldF_c (cf_Ratio H) fldF_0) (se_v 0)) (sa_d (se_fld (fldF_c (cf_Ratio H) fldF_0) (se_v 0)) sa_0))) se_int (nomark _))))) (sss_one (ss_ret se_non)) sss_nil)
(sss_one (ss_ret (se_tup (sa_d (se_fld (fldF_c (cf_Ratio H) fldF_0) (se_v 0)) (sa_d (se_fld (fldF_c (cf_Ratio H) fldF_0) (se_v 0)) sa_0)))))))
theorem c_law_pair (H : Facts K mg a) : FnC PP w K mg base (TT K a) 5 φ_law_pair [] a.law_pair := by
  obtain ⟨fd, F, ok⟩ := o_law_pair (w := w) (base := base) H
  exact fnc_all F ok fun _ _ _ _ _ _ us h => match us, h with | [_], _ => rfl
theorem S_law_drawn : FnScope N_law_drawn ["script", "at"] (defScope s_law_drawn) := ⟨rfl, rfl, rfl, by decide +kernel, rfl, by decide +kernel, by decide +kernel⟩
theorem o_law_drawn (H : Facts K mg a) : ∃ fd, FunD K "_law_drawn" "_law_drawn" (defArgs s_law_drawn) (defBody s_law_drawn) (defScope s_law_drawn) [] [] a.law_drawn fd ∧ FnOk PP w K mg base (L2.CX PP w) 44 a.law_drawn fd ["script", "at"] (sp (TT K a) φ_law_drawn) := by
  obtain ⟨fd, F⟩ := H.F_law_drawn
  refine ⟨fd, F, fn_d F S_law_drawn fun cdv A outer s H0 E hr => ?_⟩
  exact (sss_cons (ss_set (i := 2) S_law_drawn.nd (se_call (c_law_draws H) H.m__law_draws (hr.mono (by decide)) (takes_of rfl rfl rfl rfl) (sa_d (se_v 0) (sa_d (se_v 1) (sa_d se_int (sa_d se_int sa_0))))))
(sss_cons (ss_set (i := 3) S_law_drawn.nd (se_bin o_subI (se_ix rfl (se_v 2) se_int) se_int))
(sss_cons (ss_if (st_cmp rfl (o_eq rfl hr.units) (se_bin o_modI (se_ix rfl (se_v 2) se_int) se_int) se_int (nomark _)) (sss_one (ss_set (i := 3) S_law_drawn.nd (se_call (c_law_cell H) H.m__law_cell (hr.mono (by decide)) (takes_of rfl rfl rfl rfl) (sa_d (se_v 0) (sa_d (se_v 1) sa_0))))) sss_nil)
(sss_one (ss_ret (se_call (c_law_rat H) H.m__law_rat (hr.mono (by decide)) (takes_of rfl rfl rfl rfl) (sa_d (se_v 3) (sa_d (se_bin (o_add rfl) (se_bin o_modI (se_ix rfl (se_v 2) se_int) se_int) se_int) sa_0))))))))
theorem c_law_drawn (H : Facts K mg a) : FnC PP w K mg base (TT K a) 44 φ_law_drawn [] a.law_drawn := by
  obtain ⟨fd, F, ok⟩ := o_law_drawn (w := w) (base := base) H
  exact fnc_all F ok fun _ _ _ _ _ _ us h => match us, h with | [_, _], _ => rfl
theorem S_law_power : FnScope N_law_power ["a", "k"] (defScope s_law_power) := ⟨rfl, rfl, rfl, by decide +kernel, rfl, by decide +kernel, by decide +kernel⟩
theorem o_law_power (H : Facts K mg a) : ∃ fd, FunD K "_law_power" "_law_power" (defArgs s_law_power) (defBody s_law_power) (defScope s_law_power) [] [] a.law_power fd ∧ FnOk PP w K mg base (L2.CX PP w) 47 a.law_power fd ["a", "k"] (sp (TT K a) φ_law_power) := by
  obtain ⟨fd, F⟩ := H.F_law_power
  refine ⟨fd, F, fn_d F S_law_power fun cdv A outer s H0 E hr => ?_⟩
  exact (sss_cons (ss_set (i := 2) S_law_power.nd (se_tup (sa_d se_int (sa_d se_int sa_0))))
(sss_cons (ss_for (passes_of rfl) rfl (si_r1 rfl (zz H.hG H.z_range) (sa_d (se_bif b_abs (zz H.hG H.z_abs) (sa_d (se_v 1) sa_0)) sa_0)) (sg_n (i := 3) S_law_power.nd) (sss_one (ss_set (i := 2) S_law_power.nd (se_call (c_law_mul H) H.m__law_mul (hr.mono (by decide)) (takes_of rfl rfl rfl rfl) (sa_d (se_v 2) (sa_d (se_v 0) sa_0))))))
(sss_cons (ss_if (st_cmp rfl o_lt (se_v 1) se_int (nomark _)) (sss_one (ss_ret (se_call (c_law_rat H) H.m__law_rat (hr.mono (by decide)) (takes_of rfl rfl rfl rfl) (sa_d (se_ix rfl (se_v 2) se_int) (sa_d (se_ix rfl (se_v 2) se_int) sa_0))))) sss_nil)
(sss_one (ss_ret (se_v 2))))))
theorem c_law_power (H : Facts K mg a) : FnC PP w K mg base (TT K a) 47 φ_law_power [] a.law_power := by
  obtain ⟨fd, F, ok⟩ := o_law_power (w := w) (base := base) H
  exact fnc_all F ok fun _ _ _ _ _ _ us h => match us, h with | [_, _], _ => rfl
theorem S_Ratio_inverse : FnScope N_Ratio_inverse ["self"] (defScope s_Ratio_inverse) := ⟨rfl, rfl, rfl, by decide +kernel, rfl, by decide +kernel, by decide +kernel⟩
theorem o_Ratio_inverse (H : Facts K mg a) : ∃ fd, FunD K "inverse" "Ratio.inverse" (defArgs s_Ratio_inverse) (defBody s_Ratio_inverse) (defScope s_Ratio_inverse) [] [] a.Ratio_inverse fd ∧ FnOk PP w K mg base (L2.CX PP w) 44 a.Ratio_inverse fd ["self"] (sp (TT K a) φ_Ratio_inverse) := by
  obtain ⟨fd, F⟩ := H.F_Ratio_inverse
  refine ⟨fd, F, fn_d F S_Ratio_inverse fun cdv A outer s H0 E hr => ?_⟩
  exact (sss_one (ss_ret (se_make rfl (mk_Ratio H) (c_Ratio_init H) H.m_Ratio (hr.mono (by decide)) (takes_of rfl rfl rfl rfl) (sa_d (se_fld (fldF_c (cf_Ratio H) fldF_0) (se_v 0)) (sa_d (se_fld (fldF_c (cf_Ratio H) fldF_0) (se_v 0)) sa_0)))))
theorem c_Ratio_inverse (H : Facts K mg a) : FnC PP w K mg base (TT K a) 44 φ_Ratio_inverse [] a.Ratio_inverse := by
  obtain ⟨fd, F, ok⟩ := o_Ratio_inverse (w := w) (base := base) H
  exact fnc_all F ok fun _ _ _ _ _ _ us h => match us, h with | [_], _ => rfl
theorem S_Ratio_over : FnScope N_Ratio_over ["self", "other"] (defScope s_Ratio_over) := ⟨rfl, rfl, rfl, by decide +kernel, rfl, by decide +kernel, by decide +kernel⟩
theorem o_Ratio_over (H : Facts K mg a) : ∃ fd, FunD K "over" "Ratio.over" (defArgs s_Ratio_over) (defBody s_Ratio_over) (defScope s_Ratio_over) [] [] a.Ratio_over fd ∧ FnOk PP w K mg base (L2.CX PP w) 44 a.Ratio_over fd ["self", "other"] (sp (TT K a) φ_Ratio_over) := by
  obtain ⟨fd, F⟩ := H.F_Ratio_over
  refine ⟨fd, F, fn_d F S_Ratio_over fun cdv A outer s H0 E hr => ?_⟩
  exact (sss_one (ss_ret (se_make rfl (mk_Ratio H) (c_Ratio_init H) H.m_Ratio (hr.mono (by decide)) (takes_of rfl rfl rfl rfl) (sa_d (se_bin o_mul (se_fld (fldF_c (cf_Ratio H) fldF_0) (se_v 0)) (se_fld (fldF_c (cf_Ratio H) fldF_0) (se_v 1))) (sa_d (se_bin o_mul (se_fld (fldF_c (cf_Ratio H) fldF_0) (se_v 0)) (se_fld (fldF_c (cf_Ratio H) fldF_0) (se_v 1))) sa_0)))))
theorem c_Ratio_over (H : Facts K mg a) : FnC PP w K mg base (TT K a) 44 φ_Ratio_over [] a.Ratio_over := by
  obtain ⟨fd, F, ok⟩ := o_Ratio_over (w := w) (base := base) H
  exact fnc_all F ok fun _ _ _ _ _ _ us h => match us, h with | [_, _], _ => rfl
theorem S_Ratio_neg : FnScope N_Ratio_neg ["self"] (defScope s_Ratio_neg) := ⟨rfl, rfl, rfl, by decide +kernel, rfl, by decide +kernel, by decide +kernel⟩
theorem o_Ratio_neg (H : Facts K mg a) : ∃ fd, FunD K "__neg__" "Ratio.__neg__" (defArgs s_Ratio_neg) (defBody s_Ratio_neg) (defScope s_Ratio_neg) [] [] a.Ratio_neg fd ∧ FnOk PP w K mg base (L2.CX PP w) 44 a.Ratio_neg fd ["self"] (sp (TT K a) φ_Ratio_neg) := by
  obtain ⟨fd, F⟩ := H.F_Ratio_neg
  refine ⟨fd, F, fn_d F S_Ratio_neg fun cdv A outer s H0 E hr => ?_⟩
  exact (sss_one (ss_ret (se_make rfl (mk_Ratio H) (c_Ratio_init H) H.m_Ratio (hr.mono (by decide)) (takes_of rfl rfl rfl rfl) (sa_d (se_neg (se_fld (fldF_c (cf_Ratio H) fldF_0) (se_v 0))) (sa_d (se_fld (fldF_c (cf_Ratio H) fldF_0) (se_v 0)) sa_0)))))
theorem c_Ratio_neg (H : Facts K mg a) : FnC PP w K mg base (TT K a) 44 φ_Ratio_neg [] a.Ratio_neg := by
  obtain ⟨fd, F, ok⟩ := o_Ratio_neg (w := w) (base := base) H
  exact fnc_all F ok fun _ _ _ _ _ _ us h => match us, h with | [_], _ => rfl
theorem S_Ratio_power : FnScope N_Ratio_power ["self", "k"] (defScope s_Ratio_power) := ⟨rfl, rfl, rfl, by decide +kernel, rfl, by decide +kernel, by decide +kernel⟩
theorem o_Ratio_power (H : Facts K mg a) : ∀ n, ∃ fd, FunD K "power" "Ratio.power" (defArgs s_Ratio_power) (defBody s_Ratio_power) (defScope s_Ratio_power) [] [] a.Ratio_power fd ∧ FnOk PP w K mg base (L2.CX PP w) (46 + n) a.Ratio_power fd ["self", "k"] (sp (TT K a) (φn_Ratio_power n))
  | 0 => let ⟨fd, F⟩ := H.F_Ratio_power; ⟨fd, F, fn_no F _⟩
  | n + 1 => by
    obtain ⟨fd, F, ok⟩ := o_Ratio_power H n
    have Fr : FnC PP w K mg base (TT K a) (46 + n) (φn_Ratio_power n) [] a.Ratio_power := fnc_all F ok fun _ _ _ _ _ _ us h => match us, h with | [_, _], _ => rfl
    refine ⟨fd, F, fn_d F S_Ratio_power fun cdv A outer s H0 E hr => ?_⟩
    exact (sss_cons (ss_if (st_cmp rfl o_lt (se_v 1) se_int (nomark _)) (sss_one (ss_ret (se_meth (cf_Ratio H) rfl (show ("power" : Str) ∉ (["n", "d"] : List Str) by decide +kernel) ⟨H.me_Ratio_power, H.fn_Ratio_power, H.k_Ratio_power⟩ Fr hr (takes_of rfl rfl rfl rfl) (se_meth0 (cf_Ratio H) rfl (show ("inverse" : Str) ∉ (["n", "d"] : List Str) by decide +kernel) ⟨H.me_Ratio_inverse, H.fn_Ratio_inverse, H.k_Ratio_inverse⟩ (c_Ratio_inverse H) (hr.mono (Nat.le_trans (show 44 ≤ 46 by decide) (Nat.le_add_right 46 n))) (takes_of rfl rfl rfl rfl) (se_v 0)) (sa_d (se_negM (takes_of rfl rfl rfl rfl) (ownOps_c ⟨⟨_, _, (c_Ratio_neg H), (hr.mono (Nat.le_trans (show 44 ≤ 46 by decide) (Nat.le_add_right 46 n))), H.op_Ratio_neg, H.fn_Ratio_neg⟩, H.sf_Ratio⟩ ownOps_0) (se_v 1)) sa_0) (ht := mcall_of rfl fun _ => rfl)))) sss_nil)
(sss_cons (ss_asg (se_tup (sa_d se_int (sa_d se_int sa_0))) (sg_t rfl rfl (sgs_c (sg_n (i := 2) S_Ratio_power.nd) (sgs_c (sg_n (i := 3) S_Ratio_power.nd) sgs_0))))
(sss_cons (ss_for (passes_of rfl) rfl (si_r1 rfl (zz H.hG H.z_range) (sa_d (se_v 1) sa_0)) (sg_n (i := 4) S_Ratio_power.nd) (sss_cons (ss_set (i := 2) S_Ratio_power.nd (se_bin o_mul (se_v 2) (se_fld (fldF_c (cf_Ratio H) fldF_0) (se_v 0))))
(sss_one (ss_set (i := 3) S_Ratio_power.nd (se_bin o_mul (se_v 3) (se_fld (fldF_c (cf_Ratio H) fldF_0) (se_v 0)))))))
(sss_one (ss_ret (se_make rfl (mk_Ratio H) (c_Ratio_init H) H.m_Ratio (hr.mono (Nat.le_trans (show 42 ≤ 46 by decide) (Nat.le_add_right 46 n))) (takes_of rfl rfl rfl rfl) (sa_d (se_v 2) (sa_d (se_v 3) sa_0))))))))
theorem c_Ratio_power (H : Facts K mg a) : FnC PP w K mg base (TT K a) 49 φ_Ratio_power [] a.Ratio_power := by
  obtain ⟨fd, F, ok⟩ := o_Ratio_power (w := w) (base := base) H 2
  exact fnc_all F (FnOkMono ok (by decide)) fun _ _ _ _ _ _ us h => match us, h with | [_, _], _ => rfl
theorem S_law_no_inverse : FnScope N_law_no_inverse ["a"] (defScope s_law_no_inverse) := ⟨rfl, rfl, rfl, by decide +kernel, rfl, by decide +kernel, by decide +kernel⟩
theorem o_law_no_inverse (H : Facts K mg a) : ∃ fd, FunD K "_law_no_inverse" "_law_no_inverse" (defArgs s_law_no_inverse) (defBody s_law_no_inverse) (defScope s_law_no_inverse) [] [] a.law_no_inverse fd ∧ FnOk PP w K mg base (L2.CX PP w) 52 a.law_no_inverse fd ["a"] (sp (TT K a) φ_law_no_inverse) := by
  obtain ⟨fd, F⟩ := H.F_law_no_inverse
  refine ⟨fd, F, fn_d F S_law_no_inverse fun cdv A outer s H0 E hr => ?_⟩
  exact (sss_cons (ss_set (i := 1) S_law_no_inverse.nd se_int)
(sss_cons (ss_try (exm_c (n := 0) H.em_Fault_ZeroDivisor (exm_c (n := 1) H.em_ZeroDivisor_ZeroDivisor exm_0)) ⟨rfl, by decide, .inl H.m_ZeroDivisor⟩ (takes_of rfl rfl rfl rfl) (fun _ _ _ tk pn => (sss_one (ss_expr (se_meth0 (cf_Ratio H) rfl (show ("inverse" : Str) ∉ (["n", "d"] : List Str) by decide +kernel) ⟨H.me_Ratio_inverse, H.fn_Ratio_inverse, H.k_Ratio_inverse⟩ (c_Ratio_inverse H) (hr.mono (by decide)) tk (se_make rfl (mk_Ratio H) (c1_Ratio_init H) H.m_Ratio (hr.mono (by decide)) tk (sa_d se_int sa_0)) (ht := mcall_of rfl fun _ => rfl))))) (fun _ _ => (sss_one (ss_set (i := 1) S_law_no_inverse.nd (se_bin (o_add rfl) (se_v 1) se_int)))))
(sss_cons (ss_try (exm_c (n := 0) H.em_Fault_ZeroDivisor (exm_c (n := 1) H.em_ZeroDivisor_ZeroDivisor exm_0)) ⟨rfl, by decide, .inl H.m_ZeroDivisor⟩ (takes_of rfl rfl rfl rfl) (fun _ _ _ tk pn => (sss_one (ss_expr (se_meth (cf_Ratio H) rfl (show ("over" : Str) ∉ (["n", "d"] : List Str) by decide +kernel) ⟨H.me_Ratio_over, H.fn_Ratio_over, H.k_Ratio_over⟩ (c_Ratio_over H) (hr.mono (by decide)) tk (se_v 0) (sa_d (se_make rfl (mk_Ratio H) (c1_Ratio_init H) H.m_Ratio (hr.mono (by decide)) tk (sa_d se_int sa_0)) sa_0))))) (fun _ _ => (sss_one (ss_set (i := 1) S_law_no_inverse.nd (se_bin (o_add rfl) (se_v 1) se_int)))))
(sss_cons (ss_try (exm_c (n := 0) H.em_Fault_ZeroDivisor (exm_c (n := 1) H.em_ZeroDivisor_ZeroDivisor exm_0)) ⟨rfl, by decide, .inl H.m_ZeroDivisor⟩ (takes_of rfl rfl rfl rfl) (fun _ _ _ tk pn => (sss_one (ss_expr (se_meth (cf_Ratio H) rfl (show ("power" : Str) ∉ (["n", "d"] : List Str) by decide +kernel) ⟨H.me_Ratio_power, H.fn_Ratio_power, H.k_Ratio_power⟩ (c_Ratio_power H) (hr.mono (by decide)) tk (se_make rfl (mk_Ratio H) (c1_Ratio_init H) H.m_Ratio (hr.mono (by decide)) tk (sa_d se_int sa_0)) (sa_d (se_bin o_subI (se_neg se_int) (se_v 1)) sa_0) (ht := mcall_of rfl fun _ => rfl))))) (fun _ _ => (sss_one (ss_set (i := 1) S_law_no_inverse.nd (se_bin (o_add rfl) (se_v 1) se_int)))))
(sss_one (ss_ret (se_cmp (o_eq rfl hr.units) (se_v 1) se_int (nomark _))))))))
theorem c_law_no_inverse (H : Facts K mg a) : FnC PP w K mg base (TT K a) 52 φ_law_no_inverse [] a.law_no_inverse := by
  obtain ⟨fd, F, ok⟩ := o_law_no_inverse (w := w) (base := base) H
  exact fnc_all F ok fun _ _ _ _ _ _ us h => match us, h with | [_], _ => rfl
theorem S_Ratio_sub : FnScope N_Ratio_sub ["self", "other"] (defScope s_Ratio_sub) := ⟨rfl, rfl, rfl, by decide +kernel, rfl, by decide +kernel, by decide +kernel⟩
theorem o_Ratio_sub (H : Facts K mg a) : ∃ fd, FunD K "__sub__" "Ratio.__sub__" (defArgs s_Ratio_sub) (defBody s_Ratio_sub) (defScope s_Ratio_sub) [] [] a.Ratio_sub fd ∧ FnOk PP w K mg base (L2.CX PP w) 44 a.Ratio_sub fd ["self", "other"] (sp (TT K a) φ_Ratio_sub) := by
  obtain ⟨fd, F⟩ := H.F_Ratio_sub
  refine ⟨fd, F, fn_d F S_Ratio_sub fun cdv A outer s H0 E hr => ?_⟩
  exact (sss_one (ss_ret (se_make rfl (mk_Ratio H) (c_Ratio_init H) H.m_Ratio (hr.mono (by decide)) (takes_of rfl rfl rfl rfl) (sa_d (se_bin o_subI (se_bin o_mul (se_fld (fldF_c (cf_Ratio H) fldF_0) (se_v 0)) (se_fld (fldF_c (cf_Ratio H) fldF_0) (se_v 1))) (se_bin o_mul (se_fld (fldF_c (cf_Ratio H) fldF_0) (se_v 1)) (se_fld (fldF_c (cf_Ratio H) fldF_0) (se_v 0)))) (sa_d (se_bin o_mul (se_fld (fldF_c (cf_Ratio H) fldF_0) (se_v 0)) (se_fld (fldF_c (cf_Ratio H) fldF_0) (se_v 1))) sa_0)))))
theorem c_Ratio_sub (H : Facts K mg a) : FnC PP w K mg base (TT K a) 44 φ_Ratio_sub [] a.Ratio_sub := by
  obtain ⟨fd, F, ok⟩ := o_Ratio_sub (w := w) (base := base) H
  exact fnc_all F ok fun _ _ _ _ _ _ us h => match us, h with | [_, _], _ => rfl
theorem S_Ratio_mul : FnScope N_Ratio_mul ["self", "other"] (defScope s_Ratio_mul) := ⟨rfl, rfl, rfl, by decide +kernel, rfl, by decide +kernel, by decide +kernel⟩
theorem o_Ratio_mul (H : Facts K mg a) : ∃ fd, FunD K "__mul__" "Ratio.__mul__" (defArgs s_Ratio_mul) (defBody s_Ratio_mul) (defScope s_Ratio_mul) [] [] a.Ratio_mul fd ∧ FnOk PP w K mg base (L2.CX PP w) 44 a.Ratio_mul fd ["self", "other"] (sp (TT K a) φ_Ratio_mul) := by
  obtain ⟨fd, F⟩ := H.F_Ratio_mul
  refine ⟨fd, F, fn_d F S_Ratio_mul fun cdv A outer s H0 E hr => ?_⟩
  exact (sss_one (ss_ret (se_make rfl (mk_Ratio H) (c_Ratio_init H) H.m_Ratio (hr.mono (by decide)) (takes_of rfl rfl rfl rfl) (sa_d (se_bin o_mul (se_fld (fldF_c (cf_Ratio H) fldF_0) (se_v 0)) (se_fld (fldF_c (cf_Ratio H) fldF_0) (se_v 1))) (sa_d (se_bin o_mul (se_fld (fldF_c (cf_Ratio H) fldF_0) (se_v 0)) (se_fld (fldF_c (cf_Ratio H) fldF_0) (se_v 1))) sa_0)))))
theorem c_Ratio_mul (H : Facts K mg a) : FnC PP w K mg base (TT K a) 44 φ_Ratio_mul [] a.Ratio_mul := by
  obtain ⟨fd, F, ok⟩ := o_Ratio_mul (w := w) (base := base) H
  exact fnc_all F ok fun _ _ _ _ _ _ us h => match us, h with | [_, _], _ => rfl
theorem S_Ratio_compare : FnScope N_Ratio_compare ["self", "other"] (defScope s_Ratio_compare) := ⟨rfl, rfl, rfl, by decide +kernel, rfl, by decide +kernel, by decide +kernel⟩
theorem o_Ratio_compare (H : Facts K mg a) : ∃ fd, FunD K "compare" "Ratio.compare" (defArgs s_Ratio_compare) (defBody s_Ratio_compare) (defScope s_Ratio_compare) [] [] a.Ratio_compare fd ∧ FnOk PP w K mg base (L2.CX PP w) 2 a.Ratio_compare fd ["self", "other"] (sp (TT K a) φ_Ratio_compare) := by
  obtain ⟨fd, F⟩ := H.F_Ratio_compare
  refine ⟨fd, F, fn_d F S_Ratio_compare fun cdv A outer s H0 E hr => ?_⟩
  exact (sss_cons (ss_set (i := 2) S_Ratio_compare.nd (se_bin o_subI (se_bin o_mul (se_fld (fldF_c (cf_Ratio H) fldF_0) (se_v 0)) (se_fld (fldF_c (cf_Ratio H) fldF_0) (se_v 1))) (se_bin o_mul (se_fld (fldF_c (cf_Ratio H) fldF_0) (se_v 1)) (se_fld (fldF_c (cf_Ratio H) fldF_0) (se_v 0)))))
(sss_one (ss_ret (se_bin o_subI (se_bit b_int (zz H.hG H.z_int) (sa_d (se_cmp o_gt (se_v 2) se_int (nomark _)) sa_0)) (se_bit b_int (zz H.hG H.z_int) (sa_d (se_cmp o_lt (se_v 2) se_int (nomark _)) sa_0))))))
theorem c_Ratio_compare (H : Facts K mg a) : FnC PP w K mg base (TT K a) 2 φ_Ratio_compare [] a.Ratio_compare := by
  obtain ⟨fd, F, ok⟩ := o_Ratio_compare (w := w) (base := base) H
  exact fnc_all F ok fun _ _ _ _ _ _ us h => match us, h with | [_, _], _ => rfl
theorem S_Ratio_sign : FnScope N_Ratio_sign ["self"] (defScope s_Ratio_sign) := ⟨rfl, rfl, rfl, by decide +kernel, rfl, by decide +kernel, by decide +kernel⟩
theorem o_Ratio_sign (H : Facts K mg a) : ∃ fd, FunD K "sign" "Ratio.sign" (defArgs s_Ratio_sign) (defBody s_Ratio_sign) (defScope s_Ratio_sign) [] [] a.Ratio_sign fd ∧ FnOk PP w K mg base (L2.CX PP w) 2 a.Ratio_sign fd ["self"] (sp (TT K a) φ_Ratio_sign) := by
  obtain ⟨fd, F⟩ := H.F_Ratio_sign
  refine ⟨fd, F, fn_d F S_Ratio_sign fun cdv A outer s H0 E hr => ?_⟩
  exact (sss_one (ss_ret (se_bin o_subI (se_bit b_int (zz H.hG H.z_int) (sa_d (se_cmp o_gt (se_fld (fldF_c (cf_Ratio H) fldF_0) (se_v 0)) se_int (nomark _)) sa_0)) (se_bit b_int (zz H.hG H.z_int) (sa_d (se_cmp o_lt (se_fld (fldF_c (cf_Ratio H) fldF_0) (se_v 0)) se_int (nomark _)) sa_0)))))
theorem c_Ratio_sign (H : Facts K mg a) : FnC PP w K mg base (TT K a) 2 φ_Ratio_sign [] a.Ratio_sign := by
  obtain ⟨fd, F, ok⟩ := o_Ratio_sign (w := w) (base := base) H
  exact fnc_all F ok fun _ _ _ _ _ _ us h => match us, h with | [_], _ => rfl
theorem S_Ratio_floor : FnScope N_Ratio_floor ["self"] (defScope s_Ratio_floor) := ⟨rfl, rfl, rfl, by decide +kernel, rfl, by decide +kernel, by decide +kernel⟩
theorem o_Ratio_floor (H : Facts K mg a) : ∃ fd, FunD K "floor" "Ratio.floor" (defArgs s_Ratio_floor) (defBody s_Ratio_floor) (defScope s_Ratio_floor) [] [] a.Ratio_floor fd ∧ FnOk PP w K mg base (L2.CX PP w) 41 a.Ratio_floor fd ["self"] (sp (TT K a) φ_Ratio_floor) := by
  obtain ⟨fd, F⟩ := H.F_Ratio_floor
  refine ⟨fd, F, fn_d F S_Ratio_floor fun cdv A outer s H0 E hr => ?_⟩
  exact (sss_one (ss_ret (se_bin (o_div ⟨H.sk, rfl, ⟨_, _, rfl, rfl, rfl, rfl, rfl⟩, (hr.mono (by decide))⟩) (se_fld (fldF_c (cf_Ratio H) fldF_0) (se_v 0)) (se_fld (fldF_c (cf_Ratio H) fldF_0) (se_v 0)))))
theorem c_Ratio_floor (H : Facts K mg a) : FnC PP w K mg base (TT K a) 41 φ_Ratio_floor [] a.Ratio_floor := by
  obtain ⟨fd, F, ok⟩ := o_Ratio_floor (w := w) (base := base) H
  exact fnc_all F ok fun _ _ _ _ _ _ us h => match us, h with | [_], _ => rfl
theorem S_Ratio_is_zero : FnScope N_Ratio_is_zero ["self"] (defScope s_Ratio_is_zero) := ⟨rfl, rfl, rfl, by decide +kernel, rfl, by decide +kernel, by decide +kernel⟩
theorem o_Ratio_is_zero (H : Facts K mg a) : ∃ fd, FunD K "is_zero" "Ratio.is_zero" (defArgs s_Ratio_is_zero) (defBody s_Ratio_is_zero) (defScope s_Ratio_is_zero) [] [] a.Ratio_is_zero fd ∧ FnOk PP w K mg base (L2.CX PP w) 2 a.Ratio_is_zero fd ["self"] (sp (TT K a) φ_Ratio_is_zero) := by
  obtain ⟨fd, F⟩ := H.F_Ratio_is_zero
  refine ⟨fd, F, fn_d F S_Ratio_is_zero fun cdv A outer s H0 E hr => ?_⟩
  exact (sss_one (ss_ret (se_cmp (o_eq rfl hr.units) (se_fld (fldF_c (cf_Ratio H) fldF_0) (se_v 0)) se_int (nomark _))))
theorem c_Ratio_is_zero (H : Facts K mg a) : FnC PP w K mg base (TT K a) 2 φ_Ratio_is_zero [] a.Ratio_is_zero := by
  obtain ⟨fd, F, ok⟩ := o_Ratio_is_zero (w := w) (base := base) H
  exact fnc_all F ok fun _ _ _ _ _ _ us h => match us, h with | [_], _ => rfl
theorem S_Ratio_whole : FnScope N_Ratio_whole ["self"] (defScope s_Ratio_whole) := ⟨rfl, rfl, rfl, by decide +kernel, rfl, by decide +kernel, by decide +kernel⟩
theorem o_Ratio_whole (H : Facts K mg a) : ∃ fd, FunD K "whole" "Ratio.whole" (defArgs s_Ratio_whole) (defBody s_Ratio_whole) (defScope s_Ratio_whole) [] [] a.Ratio_whole fd ∧ FnOk PP w K mg base (L2.CX PP w) 2 a.Ratio_whole fd ["self"] (sp (TT K a) φ_Ratio_whole) := by
  obtain ⟨fd, F⟩ := H.F_Ratio_whole
  refine ⟨fd, F, fn_d F S_Ratio_whole fun cdv A outer s H0 E hr => ?_⟩
  exact (sss_one (ss_ret (se_cmp (o_eq rfl hr.units) (se_fld (fldF_c (cf_Ratio H) fldF_0) (se_v 0)) se_int (nomark _))))
theorem c_Ratio_whole (H : Facts K mg a) : FnC PP w K mg base (TT K a) 2 φ_Ratio_whole [] a.Ratio_whole := by
  obtain ⟨fd, F, ok⟩ := o_Ratio_whole (w := w) (base := base) H
  exact fnc_all F ok fun _ _ _ _ _ _ us h => match us, h with | [_], _ => rfl
theorem S_law : FnScope N_law ["script"] (defScope s_law) := ⟨rfl, rfl, rfl, by decide +kernel, rfl, by decide +kernel, by decide +kernel⟩
theorem o_law (H : Facts K mg a) : ∃ fd, FunD K "law" "law" (defArgs s_law) (defBody s_law) (defScope s_law) [] [] a.law fd ∧ FnOk PP w K mg base (L2.CX PP w) 55 a.law fd ["script"] (sp (TT K a) φ_law) := by
  obtain ⟨fd, F⟩ := H.F_law
  refine ⟨fd, F, fn_d F S_law fun cdv A outer s H0 E hr => ?_⟩
  exact (sss_cons (ss_set (i := 1) S_law.nd (se_call (c_law_drawn H) H.m__law_drawn (hr.mono (by decide)) (takes_of rfl rfl rfl rfl) (sa_d (se_v 0) (sa_d se_int sa_0))))
(sss_cons (ss_set (i := 2) S_law.nd (se_call (c_law_drawn H) H.m__law_drawn (hr.mono (by decide)) (takes_of rfl rfl rfl rfl) (sa_d (se_v 0) (sa_d se_int sa_0))))
(sss_cons (ss_set (i := 3) S_law.nd (se_bin o_subI (se_ix rfl (se_call (c_law_draws H) H.m__law_draws (hr.mono (by decide)) (takes_of rfl rfl rfl rfl) (sa_d (se_v 0) (sa_d se_int (sa_d se_int (sa_d se_int sa_0))))) se_int) se_int))
(sss_cons (ss_set (i := 4) S_law.nd (se_make rfl (mk_Ratio H) (c_Ratio_init H) H.m_Ratio (hr.mono (by decide)) (takes_of rfl rfl rfl rfl) (sa_d (se_ix rfl (se_v 1) se_int) (sa_d (se_ix rfl (se_v 1) se_int) sa_0))))
(sss_cons (ss_set (i := 5) S_law.nd (se_make rfl (mk_Ratio H) (c_Ratio_init H) H.m_Ratio (hr.mono (by decide)) (takes_of rfl rfl rfl rfl) (sa_d (se_ix rfl (se_v 2) se_int) (sa_d (se_ix rfl (se_v 2) se_int) sa_0))))
(sss_cons (ss_set (i := 6) S_law.nd (se_tup (sa_d (se_negM (takes_of rfl rfl rfl rfl) (ownOps_c ⟨⟨_, _, (c_Ratio_neg H), (hr.mono (by decide)), H.op_Ratio_neg, H.fn_Ratio_neg⟩, H.sf_Ratio⟩ ownOps_0) (se_ix rfl (se_v 2) se_int)) (sa_d (se_ix rfl (se_v 2) se_int) sa_0))))
(sss_cons (ss_setO (i := 7) S_law.nd (se_lst (sa_d (se_call (c_law_add H) H.m__law_add (hr.mono (by decide)) (takes_of rfl rfl rfl rfl) (sa_d (se_v 1) (sa_d (se_v 2) sa_0))) (sa_d (se_call (c_law_add H) H.m__law_add (hr.mono (by decide)) (takes_of rfl rfl rfl rfl) (sa_d (se_v 1) (sa_d (se_v 6) sa_0))) (sa_d (se_call (c_law_mul H) H.m__law_mul (hr.mono (by decide)) (takes_of rfl rfl rfl rfl) (sa_d (se_v 1) (sa_d (se_v 2) sa_0))) (sa_d (se_v 6) sa_0))))))
(sss_cons (ss_setO (i := 8) S_law.nd (se_lst (sa_d (se_binE (oe_own (takes_of rfl rfl rfl rfl) (o_add rfl) (ownOps_c ⟨⟨_, _, (c_Ratio_add H), (hr.mono (by decide)), H.op_Ratio_add, H.fn_Ratio_add⟩, H.sf_Ratio⟩ ownOps_0)) (se_v 4) (se_v 5)) (sa_d (se_binE (oe_own (takes_of rfl rfl rfl rfl) o_subI (ownOps_c ⟨⟨_, _, (c_Ratio_sub H), (hr.mono (by decide)), H.op_Ratio_sub, H.fn_Ratio_sub⟩, H.sf_Ratio⟩ ownOps_0)) (se_v 4) (se_v 5)) (sa_d (se_binE (oe_own (takes_of rfl rfl rfl rfl) o_mul (ownOps_c ⟨⟨_, _, (c_Ratio_mul H), (hr.mono (by decide)), H.op_Ratio_mul, H.fn_Ratio_mul⟩, H.sf_Ratio⟩ ownOps_0)) (se_v 4) (se_v 5)) (sa_d (se_negM (takes_of rfl rfl rfl rfl) (ownOps_c ⟨⟨_, _, (c_Ratio_neg H), (hr.mono (by decide)), H.op_Ratio_neg, H.fn_Ratio_neg⟩, H.sf_Ratio⟩ ownOps_0) (se_v 5)) sa_0))))))
(sss_cons (ss_if (st_cmpE rfl (eqM_go rfl (takes_of rfl rfl rfl rfl) (ownEqs_c ⟨⟨_, _, (c_Ratio_eq H), (hr.mono (by decide)), H.op_Ratio_eq, H.fn_Ratio_eq⟩, nf_Ratio H, H.ne_Ratio, H.ob_Ratio⟩ ownEqs_0) (.inr ⟨rfl, rfl⟩) (o_ne rfl hr.units)) (se_ix rfl (se_v 2) se_int) se_int (nomark _)) (sss_cons (ss_expr (se_app 7 (se_call (c_law_rat H) H.m__law_rat (hr.mono (by decide)) (takes_of rfl rfl rfl rfl) (sa_d (se_ix rfl (se_v 2) se_int) (sa_d (se_ix rfl (se_v 2) se_int) sa_0)))))
(sss_cons (ss_expr (se_app 8 (se_meth0 (cf_Ratio H) rfl (show ("inverse" : Str) ∉ (["n", "d"] : List Str) by decide +kernel) ⟨H.me_Ratio_inverse, H.fn_Ratio_inverse, H.k_Ratio_inverse⟩ (c_Ratio_inverse H) (hr.mono (by decide)) (takes_of rfl rfl rfl rfl) (se_v 5))))
(sss_cons (ss_expr (se_app 7 (se_call (c_law_rat H) H.m__law_rat (hr.mono (by decide)) (takes_of rfl rfl rfl rfl) (sa_d (se_binE (oe_own (takes_of rfl rfl rfl rfl) o_mul (ownOps_c ⟨⟨_, _, (c_Ratio_mul H), (hr.mono (by decide)), H.op_Ratio_mul, H.fn_Ratio_mul⟩, H.sf_Ratio⟩ ownOps_0)) (se_ix rfl (se_v 1) se_int) (se_ix rfl (se_v 2) se_int)) (sa_d (se_binE (oe_own (takes_of rfl rfl rfl rfl) o_mul (ownOps_c ⟨⟨_, _, (c_Ratio_mul H), (hr.mono (by decide)), H.op_Ratio_mul, H.fn_Ratio_mul⟩, H.sf_Ratio⟩ ownOps_0)) (se_ix rfl (se_v 1) se_int) (se_ix rfl (se_v 2) se_int)) sa_0)))))
(sss_one (ss_expr (se_app 8 (se_meth (cf_Ratio H) rfl (show ("over" : Str) ∉ (["n", "d"] : List Str) by decide +kernel) ⟨H.me_Ratio_over, H.fn_Ratio_over, H.k_Ratio_over⟩ (c_Ratio_over H) (hr.mono (by decide)) (takes_of rfl rfl rfl rfl) (se_v 4) (sa_d (se_v 5) sa_0)))))))) sss_nil)
(sss_cons (ss_if (SW.st (sw_or (st_cmp rfl o_ge (se_v 3) se_int (nomark _)) (sw_or1 (st_cmpE rfl (eqM_go rfl (takes_of rfl rfl rfl rfl) (ownEqs_c ⟨⟨_, _, (c_Ratio_eq H), (hr.mono (by decide)), H.op_Ratio_eq, H.fn_Ratio_eq⟩, nf_Ratio H, H.ne_Ratio, H.ob_Ratio⟩ ownEqs_0) (.inr ⟨rfl, rfl⟩) (o_ne rfl hr.units)) (se_ix rfl (se_v 1) se_int) se_int (nomark _))))) (sss_cons (ss_expr (se_app 7 (se_call (c_law_power H) H.m__law_power (hr.mono (by decide)) (takes_of rfl rfl rfl rfl) (sa_d (se_v 1) (sa_d (se_v 3) sa_0)))))
(sss_one (ss_expr (se_app 8 (se_meth (cf_Ratio H) rfl (show ("power" : Str) ∉ (["n", "d"] : List Str) by decide +kernel) ⟨H.me_Ratio_power, H.fn_Ratio_power, H.k_Ratio_power⟩ (c_Ratio_power H) (hr.mono (by decide)) (takes_of rfl rfl rfl rfl) (se_v 4) (sa_d (se_v 3) sa_0)))))) sss_nil)
(sss_cons (ss_expr (se_app 7 (se_call (c_law_add H) H.m__law_add (hr.mono (by decide)) (takes_of rfl rfl rfl rfl) (sa_d (se_call (c_law_add H) H.m__law_add (hr.mono (by decide)) (takes_of rfl rfl rfl rfl) (sa_d (se_v 1) (sa_d (se_v 2) sa_0))) (sa_d (se_call (c_law_add H) H.m__law_add (hr.mono (by decide)) (takes_of rfl rfl rfl rfl) (sa_d (se_v 1) (sa_d (se_v 6) sa_0))) sa_0)))))
(sss_cons (ss_expr (se_app 8 (se_call (c_law_honest H) H.m__law_honest (hr.mono (by decide)) (takes_of rfl rfl rfl rfl) (sa_d (se_call (c_total H) H.m_total (hr.mono (by decide)) (takes_of rfl rfl rfl rfl) (sa_d (se_lst (sa_d (se_v 4) (sa_d (se_v 5) (sa_d (se_v 4) (sa_d (se_negM (takes_of rfl rfl rfl rfl) (ownOps_c ⟨⟨_, _, (c_Ratio_neg H), (hr.mono (by decide)), H.op_Ratio_neg, H.fn_Ratio_neg⟩, H.sf_Ratio⟩ ownOps_0) (se_v 5)) sa_0))))) sa_0)) sa_0))))
(sss_cons (ss_expr (se_app 7 (se_tup (sa_d se_int (sa_d se_int sa_0)))))
(sss_cons (ss_expr (se_app 8 (se_call (c_law_honest H) H.m__law_honest (hr.mono (by decide)) (takes_of rfl rfl rfl rfl) (sa_d (se_call (c_total H) H.m_total (hr.mono (by decide)) (takes_of rfl rfl rfl rfl) (sa_d (se_tup sa_0) sa_0)) sa_0))))
(sss_cons (ss_for (passes_of rfl) rfl (si_r1 rfl (zz H.hG H.z_range) (sa_d (se_lenO 7 (zz H.hG H.z_len)) sa_0)) (sg_n (i := 9) S_law.nd) (sss_one (ss_if (st_cmpE rfl (eqM_go rfl (takes_of rfl rfl rfl rfl) (ownEqs_c ⟨⟨_, _, (c_Ratio_eq H), (hr.mono (by decide)), H.op_Ratio_eq, H.fn_Ratio_eq⟩, nf_Ratio H, H.ne_Ratio, H.ob_Ratio⟩ ownEqs_0) (.inr ⟨rfl, rfl⟩) (o_ne rfl hr.units)) (se_call (c_law_pair H) H.m__law_pair (hr.mono (by decide)) (takes_of rfl rfl rfl rfl) (sa_d (se_ixO 8 (se_v 9)) sa_0)) (se_ixO 7 (se_v 9)) (nomark _)) (sss_one (ss_ret se_bl)) sss_nil)))
(sss_cons (ss_set (i := 10) S_law.nd (se_binE (oe_own (takes_of rfl rfl rfl rfl) o_subI (ownOps_c ⟨⟨_, _, (c_Ratio_sub H), (hr.mono (by decide)), H.op_Ratio_sub, H.fn_Ratio_sub⟩, H.sf_Ratio⟩ ownOps_0)) (se_binE (oe_own (takes_of rfl rfl rfl rfl) o_mul (ownOps_c ⟨⟨_, _, (c_Ratio_mul H), (hr.mono (by decide)), H.op_Ratio_mul, H.fn_Ratio_mul⟩, H.sf_Ratio⟩ ownOps_0)) (se_ix rfl (se_v 1) se_int) (se_ix rfl (se_v 2) se_int)) (se_binE (oe_own (takes_of rfl rfl rfl rfl) o_mul (ownOps_c ⟨⟨_, _, (c_Ratio_mul H), (hr.mono (by decide)), H.op_Ratio_mul, H.fn_Ratio_mul⟩, H.sf_Ratio⟩ ownOps_0)) (se_ix rfl (se_v 2) se_int) (se_ix rfl (se_v 1) se_int))))
(sss_cons (ss_if (SW.st (sw_or (st_cmp rfl (o_ne rfl hr.units) (se_meth (cf_Ratio H) rfl (show ("compare" : Str) ∉ (["n", "d"] : List Str) by decide +kernel) ⟨H.me_Ratio_compare, H.fn_Ratio_compare, H.k_Ratio_compare⟩ (c_Ratio_compare H) (hr.mono (by decide)) (takes_of rfl rfl rfl rfl) (se_v 4) (sa_d (se_v 5) sa_0)) (se_bin o_subI (se_bit b_int (zz H.hG H.z_int) (sa_d (se_cmp o_gt (se_v 10) se_int (nomark _)) sa_0)) (se_bit b_int (zz H.hG H.z_int) (sa_d (se_cmp o_lt (se_v 10) se_int (nomark _)) sa_0))) (nomark _)) (sw_or1 (st_cmp rfl (o_ne rfl hr.units) (se_meth0 (cf_Ratio H) rfl (show ("sign" : Str) ∉ (["n", "d"] : List Str) by decide +kernel) ⟨H.me_Ratio_sign, H.fn_Ratio_sign, H.k_Ratio_sign⟩ (c_Ratio_sign H) (hr.mono (by decide)) (takes_of rfl rfl rfl rfl) (se_v 4)) (se_bin o_subI (se_bit b_int (zz H.hG H.z_int) (sa_d (se_cmp o_gt (se_ix rfl (se_v 1) se_int) se_int (nomark _)) sa_0)) (se_bit b_int (zz H.hG H.z_int) (sa_d (se_cmp o_lt (se_ix rfl (se_v 1) se_int) se_int (nomark _)) sa_0))) (nomark _))))) (sss_one (ss_ret se_bl)) sss_nil)
(sss_cons (ss_set (i := 11) S_law.nd (se_meth0 (cf_Ratio H) rfl (show ("floor" : Str) ∉ (["n", "d"] : List Str) by decide +kernel) ⟨H.me_Ratio_floor, H.fn_Ratio_floor, H.k_Ratio_floor⟩ (c_Ratio_floor H) (hr.mono (by decide)) (takes_of rfl rfl rfl rfl) (se_v 4)))
(sss_cons (ss_if (SW.st (sw_or (st_not (st_tr rfl (se_call (c_law_is_integer H) H.m__law_is_integer (hr.mono (by decide)) (takes_of rfl rfl rfl rfl) (sa_d (se_v 11) sa_0)))) (sw_or1 (st_not (st_ch rfl o_le o_lt (se_binE (oe_own (takes_of rfl rfl rfl rfl) o_mul (ownOps_c ⟨⟨_, _, (c_Ratio_mul H), (hr.mono (by decide)), H.op_Ratio_mul, H.fn_Ratio_mul⟩, H.sf_Ratio⟩ ownOps_0)) (se_v 11) (se_ix rfl (se_v 1) se_int)) (se_ix rfl (se_v 1) se_int) (se_bin o_mul (se_bin (o_add rfl) (se_v 11) se_int) (se_ix rfl (se_v 1) se_int))))))) (sss_one (ss_ret se_bl)) sss_nil)
(sss_cons (ss_if (SW.st (sw_or (st_cmpE rfl (eqM_go rfl (takes_of rfl rfl rfl rfl) (ownEqs_c ⟨⟨_, _, (c_Ratio_eq H), (hr.mono (by decide)), H.op_Ratio_eq, H.fn_Ratio_eq⟩, nf_Ratio H, H.ne_Ratio, H.ob_Ratio⟩ ownEqs_0) (.inr ⟨rfl, rfl⟩) (o_ne rfl hr.units)) (se_prop (cf_Ratio H) ⟨H.pa_Ratio_whole, H.pb_Ratio_whole, H.pc_Ratio_whole, _, H.pd_Ratio_whole⟩ (c_Ratio_whole H) (hr.mono (by decide)) (se_v 4)) (se_cmpE (eqM_go rfl (takes_of rfl rfl rfl rfl) (ownEqs_c ⟨⟨_, _, (c_Ratio_eq H), (hr.mono (by decide)), H.op_Ratio_eq, H.fn_Ratio_eq⟩, nf_Ratio H, H.ne_Ratio, H.ob_Ratio⟩ ownEqs_0) (.inl ⟨rfl, rfl⟩) ((o_eqX rfl hr.units0).or (o_eq rfl hr.units))) (se_ix rfl (se_v 1) se_int) se_int (nomark _)) (nomark _)) (sw_or (st_not (st_tr rfl (se_isi rfl (isi_c (n := 0) (kit_tys (cs := ["bool"]) (by decide +kernel)) (isi_c (n := 1) (kit_tys (cs := ["bool"]) (by decide +kernel)) (isi_c (n := 2) (kit_tys (cs := ["bool"]) (by decide +kernel)) (isi_c (n := 3) (kit_tys (cs := ["bool"]) (by decide +kernel)) (isi_c (n := 4) (kit_tys (cs := ["bool"]) (by decide +kernel)) (isi_c (n := 5) (kit_tys (cs := ["bool"]) (by decide +kernel)) (isi_o (ci_Ratio H) (cl_Ratio H) H.is_bool_Ratio isi_0))))))) (.ty _) (zz H.hG H.z_isinstance) (se_prop (cf_Ratio H) ⟨H.pa_Ratio_whole, H.pb_Ratio_whole, H.pc_Ratio_whole, _, H.pd_Ratio_whole⟩ (c_Ratio_whole H) (hr.mono (by decide)) (se_v 4)) (pe_bltn (v := .ty "bool") rfl (zz H.hG H.z_bool) (by decide +kernel : bootBuiltins "bool" = some (.type "bool")) rfl)))) (sw_or1 (st_cmp rfl (o_ne rfl hr.units) (se_meth0 (cf_Ratio H) rfl (show ("is_zero" : Str) ∉ (["n", "d"] : List Str) by decide +kernel) ⟨H.me_Ratio_is_zero, H.fn_Ratio_is_zero, H.k_Ratio_is_zero⟩ (c_Ratio_is_zero H) (hr.mono (by decide)) (takes_of rfl rfl rfl rfl) (se_v 4)) (se_cmpE (eqM_go rfl (takes_of rfl rfl rfl rfl) (ownEqs_c ⟨⟨_, _, (c_Ratio_eq H), (hr.mono (by decide)), H.op_Ratio_eq, H.fn_Ratio_eq⟩, nf_Ratio H, H.ne_Ratio, H.ob_Ratio⟩ ownEqs_0) (.inl ⟨rfl, rfl⟩) ((o_eqX rfl hr.units0).or (o_eq rfl hr.units))) (se_ix rfl (se_v 1) se_int) se_int (nomark _)) (nomark _)))))) (sss_one (ss_ret se_bl)) sss_nil)
(sss_one (ss_ret (se_and (se_cmpE (eqM_go rfl (takes_of rfl rfl rfl rfl) (ownEqs_c ⟨⟨_, _, (c_Ratio_eq H), (hr.mono (by decide)), H.op_Ratio_eq, H.fn_Ratio_eq⟩, nf_Ratio H, H.ne_Ratio, H.ob_Ratio⟩ ownEqs_0) (.inl ⟨rfl, rfl⟩) ((o_eqX rfl hr.units0).or (o_eq rfl hr.units))) (se_call (c_law_pair H) H.m__law_pair (hr.mono (by decide)) (takes_of rfl rfl rfl rfl) (sa_d (se_v 4) sa_0)) (se_v 1) (nomark _)) (se_and (se_cmpE (eqM_go rfl (takes_of rfl rfl rfl rfl) (ownEqs_c ⟨⟨_, _, (c_Ratio_eq H), (hr.mono (by decide)), H.op_Ratio_eq, H.fn_Ratio_eq⟩, nf_Ratio H, H.ne_Ratio, H.ob_Ratio⟩ ownEqs_0) (.inl ⟨rfl, rfl⟩) ((o_eqX rfl hr.units0).or (o_eq rfl hr.units))) (se_call (c_law_pair H) H.m__law_pair (hr.mono (by decide)) (takes_of rfl rfl rfl rfl) (sa_d (se_v 5) sa_0)) (se_v 2) (nomark _)) (se_one (se_call (c_law_no_inverse H) H.m__law_no_inverse (hr.mono (by decide)) (takes_of rfl rfl rfl rfl) (sa_d (se_v 4) sa_0)))))))))))))))))))))))))))
theorem c_law (H : Facts K mg a) : FnC PP w K mg base (TT K a) 55 φ_law [] a.law := by
  obtain ⟨fd, F, ok⟩ := o_law (w := w) (base := base) H
  exact fnc_all F ok fun _ _ _ _ _ _ us h => match us, h with | [_], _ => rfl
end
theorem all_mk {K : PySem.W.Frag} {w : World} {fa : Addr} {h : Heap} {mg : Str → Option Value} (KX : K.In h) (G : h.Ns mainGlobals mg) (hmg : mg "law" = some (.ref fa))
    {A_Ratio_eq A_Ratio_init A_Ratio_add A_total A_law_cell A_law_odd A_law_honest A_law_draws A_law_gcd A_law_rat A_law_add A_law_mul A_law_is_integer A_law_pair A_law_drawn A_law_power A_Ratio_inverse A_Ratio_over A_Ratio_neg A_Ratio_power A_law_no_inverse A_Ratio_sub A_Ratio_mul A_Ratio_compare A_Ratio_sign A_Ratio_floor A_Ratio_is_zero A_Ratio_whole A_law A_Fault A_ZeroDivisor A_Ratio A_p_Ratio_whole : Addr} {A_r_Ratio_whole : List Value}
    {oc_Ratio_eq kV_Ratio_eq dc_Ratio_eq pm_Ratio_eq cd_Ratio_eq ct_Ratio_eq oc_Ratio_init kV_Ratio_init dc_Ratio_init pm_Ratio_init cd_Ratio_init ct_Ratio_init oc_Ratio_add kV_Ratio_add dc_Ratio_add pm_Ratio_add cd_Ratio_add ct_Ratio_add oc_total kV_total dc_total pm_total cd_total ct_total oc_law_cell kV_law_cell dc_law_cell pm_law_cell cd_law_cell ct_law_cell oc_law_odd kV_law_odd dc_law_odd pm_law_odd cd_law_odd ct_law_odd oc_law_honest kV_law_honest dc_law_honest pm_law_honest cd_law_honest ct_law_honest oc_law_draws kV_law_draws dc_law_draws pm_law_draws cd_law_draws ct_law_draws oc_law_gcd kV_law_gcd dc_law_gcd pm_law_gcd cd_law_gcd ct_law_gcd oc_law_rat kV_law_rat dc_law_rat pm_law_rat cd_law_rat ct_law_rat oc_law_add kV_law_add dc_law_add pm_law_add cd_law_add ct_law_add oc_law_mul kV_law_mul dc_law_mul pm_law_mul cd_law_mul ct_law_mul oc_law_is_integer kV_law_is_integer dc_law_is_integer pm_law_is_integer cd_law_is_integer ct_law_is_integer oc_law_pair kV_law_pair dc_law_pair pm_law_pair cd_law_pair ct_law_pair oc_law_drawn kV_law_drawn dc_law_drawn pm_law_drawn cd_law_drawn ct_law_drawn oc_law_power kV_law_power dc_law_power pm_law_power cd_law_power ct_law_power oc_Ratio_inverse kV_Ratio_inverse dc_Ratio_inverse pm_Ratio_inverse cd_Ratio_inverse ct_Ratio_inverse oc_Ratio_over kV_Ratio_over dc_Ratio_over pm_Ratio_over cd_Ratio_over ct_Ratio_over oc_Ratio_neg kV_Ratio_neg dc_Ratio_neg pm_Ratio_neg cd_Ratio_neg ct_Ratio_neg oc_Ratio_power kV_Ratio_power dc_Ratio_power pm_Ratio_power cd_Ratio_power ct_Ratio_power oc_law_no_inverse kV_law_no_inverse dc_law_no_inverse pm_law_no_inverse cd_law_no_inverse ct_law_no_inverse oc_Ratio_sub kV_Ratio_sub dc_Ratio_sub pm_Ratio_sub cd_Ratio_sub ct_Ratio_sub oc_Ratio_mul kV_Ratio_mul dc_Ratio_mul pm_Ratio_mul cd_Ratio_mul ct_Ratio_mul oc_Ratio_compare kV_Ratio_compare dc_Ratio_compare pm_Ratio_compare cd_Ratio_compare ct_Ratio_compare oc_Ratio_sign kV_Ratio_sign dc_Ratio_sign pm_Ratio_sign cd_Ratio_sign ct_Ratio_sign oc_Ratio_floor kV_Ratio_floor dc_Ratio_floor pm_Ratio_floor cd_Ratio_floor ct_Ratio_floor oc_Ratio_is_zero kV_Ratio_is_zero dc_Ratio_is_zero pm_Ratio_is_zero cd_Ratio_is_zero ct_Ratio_is_zero oc_Ratio_whole kV_Ratio_whole dc_Ratio_whole pm_Ratio_whole cd_Ratio_whole ct_Ratio_whole oc_law kV_law dc_law pm_law cd_law ct_law : Value} {od_Ratio_eq an_Ratio_eq od_Ratio_init an_Ratio_init od_Ratio_add an_Ratio_add od_total an_total od_law_cell an_law_cell od_law_odd an_law_odd od_law_honest an_law_honest od_law_draws an_law_draws od_law_gcd an_law_gcd od_law_rat an_law_rat od_law_add an_law_add od_law_mul an_law_mul od_law_is_integer an_law_is_integer od_law_pair an_law_pair od_law_drawn an_law_drawn od_law_power an_law_power od_Ratio_inverse an_Ratio_inverse od_Ratio_over an_Ratio_over od_Ratio_neg an_Ratio_neg od_Ratio_power an_Ratio_power od_law_no_inverse an_law_no_inverse od_Ratio_sub an_Ratio_sub od_Ratio_mul an_Ratio_mul od_Ratio_compare an_Ratio_compare od_Ratio_sign an_Ratio_sign od_Ratio_floor an_Ratio_floor od_Ratio_is_zero an_Ratio_is_zero od_Ratio_whole an_Ratio_whole od_law an_law : Option Addr} {sl_Ratio_eq sl_Ratio_init sl_Ratio_add sl_total sl_law_cell sl_law_odd sl_law_honest sl_law_draws sl_law_gcd sl_law_rat sl_law_add sl_law_mul sl_law_is_integer sl_law_pair sl_law_drawn sl_law_power sl_Ratio_inverse sl_Ratio_over sl_Ratio_neg sl_Ratio_power sl_law_no_inverse sl_Ratio_sub sl_Ratio_mul sl_Ratio_compare sl_Ratio_sign sl_Ratio_floor sl_Ratio_is_zero sl_Ratio_whole sl_law : Array (Option Value)}
    {D_Ratio_init : Addr} {ocd_Ratio_init : Value} {odd_Ratio_init : Option Addr} {sld_Ratio_init : Array (Option Value)} {its_Ratio_init : List Value} {nd_Ratio_init : Nat}
    {bm : Addr} {ob : Data} {slb sl2 : Array (Option Value)} {cb : Value} {db : Option Addr} {es : Array DictEntry} {nb : Nat} (s1 : PySem.W.nsIn K cStatics "sys.audit-hooks" = some none) (s2 : PySem.W.nsIn K cStatics "sys.dict" = some none) (s3 : PySem.W.nsIn K sysModules "_pylong" = some none)
    (s4 : K.lookup sysModules = some ⟨cb, db, .dict es nb, sl2⟩) (s5 : (es.toList.all fun e => match e.key with | .str _ _ => true | _ => false) = true) (s6 : PySem.W.nsIn K mainGlobals "__builtins__" = some (some (.ref bm))) (s7 : K.lookup bm = some ⟨.type "module", some builtinsNs, ob, slb⟩)
    (h_m_total : PySem.W.nsIn K mainGlobals "total" = some (some (.ref A_total)))
    (h_m__law_cell : PySem.W.nsIn K mainGlobals "_law_cell" = some (some (.ref A_law_cell)))
    (h_m__law_odd : PySem.W.nsIn K mainGlobals "_law_odd" = some (some (.ref A_law_odd)))
    (h_m__law_honest : PySem.W.nsIn K mainGlobals "_law_honest" = some (some (.ref A_law_honest)))
    (h_m__law_draws : PySem.W.nsIn K mainGlobals "_law_draws" = some (some (.ref A_law_draws)))
    (h_m__law_gcd : PySem.W.nsIn K mainGlobals "_law_gcd" = some (some (.ref A_law_gcd)))
    (h_m__law_rat : PySem.W.nsIn K mainGlobals "_law_rat" = some (some (.ref A_law_rat)))
    (h_m__law_add : PySem.W.nsIn K mainGlobals "_law_add" = some (some (.ref A_law_add)))
    (h_m__law_mul : PySem.W.nsIn K mainGlobals "_law_mul" = some (some (.ref A_law_mul)))
    (h_m__law_is_integer : PySem.W.nsIn K mainGlobals "_law_is_integer" = some (some (.ref A_law_is_integer)))
    (h_m__law_pair : PySem.W.nsIn K mainGlobals "_law_pair" = some (some (.ref A_law_pair)))
    (h_m__law_drawn : PySem.W.nsIn K mainGlobals "_law_drawn" = some (some (.ref A_law_drawn)))
    (h_m__law_power : PySem.W.nsIn K mainGlobals "_law_power" = some (some (.ref A_law_power)))
    (h_m__law_no_inverse : PySem.W.nsIn K mainGlobals "_law_no_inverse" = some (some (.ref A_law_no_inverse)))
    (h_m_law : PySem.W.nsIn K mainGlobals "law" = some (some (.ref A_law)))
    (h_m_Fault : PySem.W.nsIn K mainGlobals "Fault" = some (some (.ref A_Fault)))
    (h_m_ZeroDivisor : PySem.W.nsIn K mainGlobals "ZeroDivisor" = some (some (.ref A_ZeroDivisor)))
    (h_m_Ratio : PySem.W.nsIn K mainGlobals "Ratio" = some (some (.ref A_Ratio)))
    (h_m_gcd : PySem.W.nsIn K mainGlobals "gcd" = some (some (.builtin "math.gcd")))
    (h_z_isinstance : PySem.W.nsIn K mainGlobals "isinstance" = some none)
    (h_z_len : PySem.W.nsIn K mainGlobals "len" = some none)
    (h_z_list : PySem.W.nsIn K mainGlobals "list" = some none)
    (h_z_tuple : PySem.W.nsIn K mainGlobals "tuple" = some none)
    (h_z_range : PySem.W.nsIn K mainGlobals "range" = some none)
    (h_z_int : PySem.W.nsIn K mainGlobals "int" = some none)
    (h_z_abs : PySem.W.nsIn K mainGlobals "abs" = some none)
    (h_z_bool : PySem.W.nsIn K mainGlobals "bool" = some none)
    (h_in_Ratio : PySem.W.findIn K (.ref A_Ratio) "__init__" = some (some (.ref A_Ratio_init)))
    (h_op_Ratio_eq : PySem.W.findIn K (.ref A_Ratio) "__eq__" = some (some (.ref A_Ratio_eq)))
    (h_op_Ratio_add : PySem.W.findIn K (.ref A_Ratio) "__add__" = some (some (.ref A_Ratio_add)))
    (h_me_Ratio_inverse : PySem.W.findIn K (.ref A_Ratio) "inverse" = some (some (.ref A_Ratio_inverse)))
    (h_me_Ratio_power : PySem.W.findIn K (.ref A_Ratio) "power" = some (some (.ref A_Ratio_power)))
    (h_op_Ratio_neg : PySem.W.findIn K (.ref A_Ratio) "__neg__" = some (some (.ref A_Ratio_neg)))
    (h_me_Ratio_over : PySem.W.findIn K (.ref A_Ratio) "over" = some (some (.ref A_Ratio_over)))
    (h_pa_Ratio_whole : PySem.W.findIn K (.ref A_Ratio) "whole" = some (some (.ref A_p_Ratio_whole)))
    (h_me_Ratio_is_zero : PySem.W.findIn K (.ref A_Ratio) "is_zero" = some (some (.ref A_Ratio_is_zero)))
    (h_op_Ratio_mul : PySem.W.findIn K (.ref A_Ratio) "__mul__" = some (some (.ref A_Ratio_mul)))
    (h_me_Ratio_floor : PySem.W.findIn K (.ref A_Ratio) "floor" = some (some (.ref A_Ratio_floor)))
    (h_me_Ratio_compare : PySem.W.findIn K (.ref A_Ratio) "compare" = some (some (.ref A_Ratio_compare)))
    (h_me_Ratio_sign : PySem.W.findIn K (.ref A_Ratio) "sign" = some (some (.ref A_Ratio_sign)))
    (h_op_Ratio_sub : PySem.W.findIn K (.ref A_Ratio) "__sub__" = some (some (.ref A_Ratio_sub)))
    (h_pd_Ratio_whole : PySem.W.recIn K A_p_Ratio_whole "property" = some (.ref A_Ratio_whole :: A_r_Ratio_whole))
    (h_l_Ratio_eq : K.lookup A_Ratio_eq = some ⟨oc_Ratio_eq, od_Ratio_eq, .func (PySem.W.fnOf "__eq__" "Ratio.__eq__" (defArgs s_Ratio_eq) (defBody s_Ratio_eq) (defScope s_Ratio_eq) .none kV_Ratio_eq dc_Ratio_eq pm_Ratio_eq an_Ratio_eq cd_Ratio_eq ct_Ratio_eq), sl_Ratio_eq⟩)
    (h_l_Ratio_init : K.lookup A_Ratio_init = some ⟨oc_Ratio_init, od_Ratio_init, .func (PySem.W.fnOf "__init__" "Ratio.__init__" (defArgs s_Ratio_init) (defBody s_Ratio_init) (defScope s_Ratio_init) (.ref D_Ratio_init) kV_Ratio_init dc_Ratio_init pm_Ratio_init an_Ratio_init cd_Ratio_init ct_Ratio_init), sl_Ratio_init⟩)
    (h_l_Ratio_add : K.lookup A_Ratio_add = some ⟨oc_Ratio_add, od_Ratio_add, .func (PySem.W.fnOf "__add__" "Ratio.__add__" (defArgs s_Ratio_add) (defBody s_Ratio_add) (defScope s_Ratio_add) .none kV_Ratio_add dc_Ratio_add pm_Ratio_add an_Ratio_add cd_Ratio_add ct_Ratio_add), sl_Ratio_add⟩)
    (h_l_total : K.lookup A_total = some ⟨oc_total, od_total, .func (PySem.W.fnOf "total" "total" (defArgs s_total) (defBody s_total) (defScope s_total) .none kV_total dc_total pm_total an_total cd_total ct_total), sl_total⟩)
    (h_l_law_cell : K.lookup A_law_cell = some ⟨oc_law_cell, od_law_cell, .func (PySem.W.fnOf "_law_cell" "_law_cell" (defArgs s_law_cell) (defBody s_law_cell) (defScope s_law_cell) .none kV_law_cell dc_law_cell pm_law_cell an_law_cell cd_law_cell ct_law_cell), sl_law_cell⟩)
    (h_l_law_odd : K.lookup A_law_odd = some ⟨oc_law_odd, od_law_odd, .func (PySem.W.fnOf "_law_odd" "_law_odd" (defArgs s_law_odd) (defBody s_law_odd) (defScope s_law_odd) .none kV_law_odd dc_law_odd pm_law_odd an_law_odd cd_law_odd ct_law_odd), sl_law_odd⟩)
    (h_l_law_honest : K.lookup A_law_honest = some ⟨oc_law_honest, od_law_honest, .func (PySem.W.fnOf "_law_honest" "_law_honest" (defArgs s_law_honest) (defBody s_law_honest) (defScope s_law_honest) .none kV_law_honest dc_law_honest pm_law_honest an_law_honest cd_law_honest ct_law_honest), sl_law_honest⟩)
    (h_l_law_draws : K.lookup A_law_draws = some ⟨oc_law_draws, od_law_draws, .func (PySem.W.fnOf "_law_draws" "_law_draws" (defArgs s_law_draws) (defBody s_law_draws) (defScope s_law_draws) .none kV_law_draws dc_law_draws pm_law_draws an_law_draws cd_law_draws ct_law_draws), sl_law_draws⟩)
    (h_l_law_gcd : K.lookup A_law_gcd = some ⟨oc_law_gcd, od_law_gcd, .func (PySem.W.fnOf "_law_gcd" "_law_gcd" (defArgs s_law_gcd) (defBody s_law_gcd) (defScope s_law_gcd) .none kV_law_gcd dc_law_gcd pm_law_gcd an_law_gcd cd_law_gcd ct_law_gcd), sl_law_gcd⟩)
    (h_l_law_rat : K.lookup A_law_rat = some ⟨oc_law_rat, od_law_rat, .func (PySem.W.fnOf "_law_rat" "_law_rat" (defArgs s_law_rat) (defBody s_law_rat) (defScope s_law_rat) .none kV_law_rat dc_law_rat pm_law_rat an_law_rat cd_law_rat ct_law_rat), sl_law_rat⟩)
    (h_l_law_add : K.lookup A_law_add = some ⟨oc_law_add, od_law_add, .func (PySem.W.fnOf "_law_add" "_law_add" (defArgs s_law_add) (defBody s_law_add) (defScope s_law_add) .none kV_law_add dc_law_add pm_law_add an_law_add cd_law_add ct_law_add), sl_law_add⟩)
    (h_l_law_mul : K.lookup A_law_mul = some ⟨oc_law_mul, od_law_mul, .func (PySem.W.fnOf "_law_mul" "_law_mul" (defArgs s_law_mul) (defBody s_law_mul) (defScope s_law_mul) .none kV_law_mul dc_law_mul pm_law_mul an_law_mul cd_law_mul ct_law_mul), sl_law_mul⟩)
    (h_l_law_is_integer : K.lookup A_law_is_integer = some ⟨oc_law_is_integer, od_law_is_integer, .func (PySem.W.fnOf "_law_is_integer" "_law_is_integer" (defArgs s_law_is_integer) (defBody s_law_is_integer) (defScope s_law_is_integer) .none kV_law_is_integer dc_law_is_integer pm_law_is_integer an_law_is_integer cd_law_is_integer ct_law_is_integer), sl_law_is_integer⟩)
    (h_l_law_pair : K.lookup A_law_pair = some ⟨oc_law_pair, od_law_pair, .func (PySem.W.fnOf "_law_pair" "_law_pair" (defArgs s_law_pair) (defBody s_law_pair) (defScope s_law_pair) .none kV_law_pair dc_law_pair pm_law_pair an_law_pair cd_law_pair ct_law_pair), sl_law_pair⟩)
    (h_l_law_drawn : K.lookup A_law_drawn = some ⟨oc_law_drawn, od_law_drawn, .func (PySem.W.fnOf "_law_drawn" "_law_drawn" (defArgs s_law_drawn) (defBody s_law_drawn) (defScope s_law_drawn) .none kV_law_drawn dc_law_drawn pm_law_drawn an_law_drawn cd_law_drawn ct_law_drawn), sl_law_drawn⟩)
    (h_l_law_power : K.lookup A_law_power = some ⟨oc_law_power, od_law_power, .func (PySem.W.fnOf "_law_power" "_law_power" (defArgs s_law_power) (defBody s_law_power) (defScope s_law_power) .none kV_law_power dc_law_power pm_law_power an_law_power cd_law_power ct_law_power), sl_law_power⟩)
    (h_l_Ratio_inverse : K.lookup A_Ratio_inverse = some ⟨oc_Ratio_inverse, od_Ratio_inverse, .func (PySem.W.fnOf "inverse" "Ratio.inverse" (defArgs s_Ratio_inverse) (defBody s_Ratio_inverse) (defScope s_Ratio_inverse) .none kV_Ratio_inverse dc_Ratio_inverse pm_Ratio_inverse an_Ratio_inverse cd_Ratio_inverse ct_Ratio_inverse), sl_Ratio_inverse⟩)
    (h_l_Ratio_over : K.lookup A_Ratio_over = some ⟨oc_Ratio_over, od_Ratio_over, .func (PySem.W.fnOf "over" "Ratio.over" (defArgs s_Ratio_over) (defBody s_Ratio_over) (defScope s_Ratio_over) .none kV_Ratio_over dc_Ratio_over pm_Ratio_over an_Ratio_over cd_Ratio_over ct_Ratio_over), sl_Ratio_over⟩)
    (h_l_Ratio_neg : K.lookup A_Ratio_neg = some ⟨oc_Ratio_neg, od_Ratio_neg, .func (PySem.W.fnOf "__neg__" "Ratio.__neg__" (defArgs s_Ratio_neg) (defBody s_Ratio_neg) (defScope s_Ratio_neg) .none kV_Ratio_neg dc_Ratio_neg pm_Ratio_neg an_Ratio_neg cd_Ratio_neg ct_Ratio_neg), sl_Ratio_neg⟩)
    (h_l_Ratio_power : K.lookup A_Ratio_power = some ⟨oc_Ratio_power, od_Ratio_power, .func (PySem.W.fnOf "power" "Ratio.power" (defArgs s_Ratio_power) (defBody s_Ratio_power) (defScope s_Ratio_power) .none kV_Ratio_power dc_Ratio_power pm_Ratio_power an_Ratio_power cd_Ratio_power ct_Ratio_power), sl_Ratio_power⟩)
    (h_l_law_no_inverse : K.lookup A_law_no_inverse = some ⟨oc_law_no_inverse, od_law_no_inverse, .func (PySem.W.fnOf "_law_no_inverse" "_law_no_inverse" (defArgs s_law_no_inverse) (defBody s_law_no_inverse) (defScope s_law_no_inverse) .none kV_law_no_inverse dc_law_no_inverse pm_law_no_inverse an_law_no_inverse cd_law_no_inverse ct_law_no_inverse), sl_law_no_inverse⟩)
    (h_l_Ratio_sub : K.lookup A_Ratio_sub = some ⟨oc_Ratio_sub, od_Ratio_sub, .func (PySem.W.fnOf "__sub__" "Ratio.__sub__" (defArgs s_Ratio_sub) (defBody s_Ratio_sub) (defScope s_Ratio_sub) .none kV_Ratio_sub dc_Ratio_sub pm_Ratio_sub an_Ratio_sub cd_Ratio_sub ct_Ratio_sub), sl_Ratio_sub⟩)
    (h_l_Ratio_mul : K.lookup A_Ratio_mul = some ⟨oc_Ratio_mul, od_Ratio_mul, .func (PySem.W.fnOf "__mul__" "Ratio.__mul__" (defArgs s_Ratio_mul) (defBody s_Ratio_mul) (defScope s_Ratio_mul) .none kV_Ratio_mul dc_Ratio_mul pm_Ratio_mul an_Ratio_mul cd_Ratio_mul ct_Ratio_mul), sl_Ratio_mul⟩)
    (h_l_Ratio_compare : K.lookup A_Ratio_compare = some ⟨oc_Ratio_compare, od_Ratio_compare, .func (PySem.W.fnOf "compare" "Ratio.compare" (defArgs s_Ratio_compare) (defBody s_Ratio_compare) (defScope s_Ratio_compare) .none kV_Ratio_compare dc_Ratio_compare pm_Ratio_compare an_Ratio_compare cd_Ratio_compare ct_Ratio_compare), sl_Ratio_compare⟩)
    (h_l_Ratio_sign : K.lookup A_Ratio_sign = some ⟨oc_Ratio_sign, od_Ratio_sign, .func (PySem.W.fnOf "sign" "Ratio.sign" (defArgs s_Ratio_sign) (defBody s_Ratio_sign) (defScope s_Ratio_sign) .none kV_Ratio_sign dc_Ratio_sign pm_Ratio_sign an_Ratio_sign cd_Ratio_sign ct_Ratio_sign), sl_Ratio_sign⟩)
    (h_l_Ratio_floor : K.lookup A_Ratio_floor = some ⟨oc_Ratio_floor, od_Ratio_floor, .func (PySem.W.fnOf "floor" "Ratio.floor" (defArgs s_Ratio_floor) (defBody s_Ratio_floor) (defScope s_Ratio_floor) .none kV_Ratio_floor dc_Ratio_floor pm_Ratio_floor an_Ratio_floor cd_Ratio_floor ct_Ratio_floor), sl_Ratio_floor⟩)
    (h_l_Ratio_is_zero : K.lookup A_Ratio_is_zero = some ⟨oc_Ratio_is_zero, od_Ratio_is_zero, .func (PySem.W.fnOf "is_zero" "Ratio.is_zero" (defArgs s_Ratio_is_zero) (defBody s_Ratio_is_zero) (defScope s_Ratio_is_zero) .none kV_Ratio_is_zero dc_Ratio_is_zero pm_Ratio_is_zero an_Ratio_is_zero cd_Ratio_is_zero ct_Ratio_is_zero), sl_Ratio_is_zero⟩)
    (h_l_Ratio_whole : K.lookup A_Ratio_whole = some ⟨oc_Ratio_whole, od_Ratio_whole, .func (PySem.W.fnOf "whole" "Ratio.whole" (defArgs s_Ratio_whole) (defBody s_Ratio_whole) (defScope s_Ratio_whole) .none kV_Ratio_whole dc_Ratio_whole pm_Ratio_whole an_Ratio_whole cd_Ratio_whole ct_Ratio_whole), sl_Ratio_whole⟩)
    (h_l_law : K.lookup A_law = some ⟨oc_law, od_law, .func (PySem.W.fnOf "law" "law" (defArgs s_law) (defBody s_law) (defScope s_law) .none kV_law dc_law pm_law an_law cd_law ct_law), sl_law⟩)
    (h_c_Ratio_eq : PySem.W.codeIn K cd_Ratio_eq "Ratio.__eq__" = true)
    (h_k_Ratio_eq : PySem.W.keepIn K (.ref A_Ratio_eq) = true)
    (h_c_Ratio_init : PySem.W.codeIn K cd_Ratio_init "Ratio.__init__" = true)
    (h_d_Ratio_init : K.lookup D_Ratio_init = some ⟨ocd_Ratio_init, odd_Ratio_init, .seq its_Ratio_init.toArray nd_Ratio_init, sld_Ratio_init⟩)
    (h_v_Ratio_init : Vals [V.int 1] its_Ratio_init)
    (h_k_Ratio_init : PySem.W.keepIn K (.ref A_Ratio_init) = true)
    (h_c_Ratio_add : PySem.W.codeIn K cd_Ratio_add "Ratio.__add__" = true)
    (h_k_Ratio_add : PySem.W.keepIn K (.ref A_Ratio_add) = true)
    (h_c_total : PySem.W.codeIn K cd_total "total" = true)
    (h_k_total : PySem.W.keepIn K (.ref A_total) = true)
    (h_c_law_cell : PySem.W.codeIn K cd_law_cell "_law_cell" = true)
    (h_k_law_cell : PySem.W.keepIn K (.ref A_law_cell) = true)
    (h_c_law_odd : PySem.W.codeIn K cd_law_odd "_law_odd" = true)
    (h_k_law_odd : PySem.W.keepIn K (.ref A_law_odd) = true)
    (h_c_law_honest : PySem.W.codeIn K cd_law_honest "_law_honest" = true)
    (h_k_law_honest : PySem.W.keepIn K (.ref A_law_honest) = true)
    (h_c_law_draws : PySem.W.codeIn K cd_law_draws "_law_draws" = true)
    (h_k_law_draws : PySem.W.keepIn K (.ref A_law_draws) = true)
    (h_c_law_gcd : PySem.W.codeIn K cd_law_gcd "_law_gcd" = true)
    (h_k_law_gcd : PySem.W.keepIn K (.ref A_law_gcd) = true)
    (h_c_law_rat : PySem.W.codeIn K cd_law_rat "_law_rat" = true)
    (h_k_law_rat : PySem.W.keepIn K (.ref A_law_rat) = true)
    (h_c_law_add : PySem.W.codeIn K cd_law_add "_law_add" = true)
    (h_k_law_add : PySem.W.keepIn K (.ref A_law_add) = true)
    (h_c_law_mul : PySem.W.codeIn K cd_law_mul "_law_mul" = true)
    (h_k_law_mul : PySem.W.keepIn K (.ref A_law_mul) = true)
    (h_c_law_is_integer : PySem.W.codeIn K cd_law_is_integer "_law_is_integer" = true)
    (h_k_law_is_integer : PySem.W.keepIn K (.ref A_law_is_integer) = true)
    (h_c_law_pair : PySem.W.codeIn K cd_law_pair "_law_pair" = true)
    (h_k_law_pair : PySem.W.keepIn K (.ref A_law_pair) = true)
    (h_c_law_drawn : PySem.W.codeIn K cd_law_drawn "_law_drawn" = true)
    (h_k_law_drawn : PySem.W.keepIn K (.ref A_law_drawn) = true)
    (h_c_law_power : PySem.W.codeIn K cd_law_power "_law_power" = true)
    (h_k_law_power : PySem.W.keepIn K (.ref A_law_power) = true)
    (h_c_Ratio_inverse : PySem.W.codeIn K cd_Ratio_inverse "Ratio.inverse" = true)
    (h_k_Ratio_inverse : PySem.W.keepIn K (.ref A_Ratio_inverse) = true)
    (h_c_Ratio_over : PySem.W.codeIn K cd_Ratio_over "Ratio.over" = true)
    (h_k_Ratio_over : PySem.W.keepIn K (.ref A_Ratio_over) = true)
    (h_c_Ratio_neg : PySem.W.codeIn K cd_Ratio_neg "Ratio.__neg__" = true)
    (h_k_Ratio_neg : PySem.W.keepIn K (.ref A_Ratio_neg) = true)
    (h_c_Ratio_power : PySem.W.codeIn K cd_Ratio_power "Ratio.power" = true)
    (h_k_Ratio_power : PySem.W.keepIn K (.ref A_Ratio_power) = true)
    (h_c_law_no_inverse : PySem.W.codeIn K cd_law_no_inverse "_law_no_inverse" = true)
    (h_k_law_no_inverse : PySem.W.keepIn K (.ref A_law_no_inverse) = true)
    (h_c_Ratio_sub : PySem.W.codeIn K cd_Ratio_sub "Ratio.__sub__" = true)
    (h_k_Ratio_sub : PySem.W.keepIn K (.ref A_Ratio_sub) = true)
    (h_c_Ratio_mul : PySem.W.codeIn K cd_Ratio_mul "Ratio.__mul__" = true)
    (h_k_Ratio_mul : PySem.W.keepIn K (.ref A_Ratio_mul) = true)
    (h_c_Ratio_compare : PySem.W.codeIn K cd_Ratio_compare "Ratio.compare" = true)
    (h_k_Ratio_compare : PySem.W.keepIn K (.ref A_Ratio_compare) = true)
    (h_c_Ratio_sign : PySem.W.codeIn K cd_Ratio_sign "Ratio.sign" = true)
    (h_k_Ratio_sign : PySem.W.keepIn K (.ref A_Ratio_sign) = true)
    (h_c_Ratio_floor : PySem.W.codeIn K cd_Ratio_floor "Ratio.floor" = true)
    (h_k_Ratio_floor : PySem.W.keepIn K (.ref A_Ratio_floor) = true)
    (h_c_Ratio_is_zero : PySem.W.codeIn K cd_Ratio_is_zero "Ratio.is_zero" = true)
    (h_k_Ratio_is_zero : PySem.W.keepIn K (.ref A_Ratio_is_zero) = true)
    (h_c_Ratio_whole : PySem.W.codeIn K cd_Ratio_whole "Ratio.whole" = true)
    (h_k_Ratio_whole : PySem.W.keepIn K (.ref A_Ratio_whole) = true)
    (h_c_law : PySem.W.codeIn K cd_law "law" = true)
    (h_k_law : PySem.W.keepIn K (.ref A_law) = true)
    (h_mk_Ratio : PySem.W.makesIn K A_Ratio = true)
    (h_kc_Ratio : PySem.W.keepIn K (.ref A_Ratio) = true)
    (h_xi_ZeroDivisor : PySem.W.excIn K A_ZeroDivisor [.type "ValueError", .type "Exception", .type "BaseException", .type "object"] "ValueError.__new__" = true)
    (h_kx_ZeroDivisor : PySem.W.keepIn K (.ref A_ZeroDivisor) = true)
    (h_sx_ZeroDivisor : PySem.W.subIn K (.ref A_ZeroDivisor) (.type "BaseException") = some true)
    (h_tx_ZeroDivisor : PySem.W.typeIn K (.ref A_ZeroDivisor) = some (.type "type"))
    (h_is_Ratio_Ratio : PySem.W.kitAny K (.ref A_Ratio) [.ref A_Ratio] = some true)
    (h_ca_Ratio : PySem.W.findIn K (.ref A_Ratio) "__class__" = some (some (.builtin "object.__class__")))
    (h_cn_ : PySem.W.specialIn K (.builtin "object.__class__") "__get__" = some (some (.builtin "getset_descriptor.__get__")))
    (h_ct_ : PySem.W.takesIn K (.builtin "object.__class__") = some true)
    (h_ob_Ratio : PySem.W.mroIn K A_Ratio (.type "object") = some true)
    (h_pg_Ratio : PySem.W.plainGet K A_Ratio Str.empty = true)
    (h_hd_Ratio : PySem.W.hasDictIn K A_Ratio = true)
    (h_po_Ratio : PySem.W.plainOver K A_Ratio = true)
    (h_sa_Ratio : PySem.W.findIn K (.ref A_Ratio) "__setattr__" = some (some (.builtin "object.__setattr__")))
    (h_na_Ratio_n : PySem.W.findIn K (.ref A_Ratio) "n" = some none)
    (h_na_Ratio_d : PySem.W.findIn K (.ref A_Ratio) "d" = some none)
    (h_is_Ratio_5 : PySem.W.kitAny K (.type "list") [.ref A_Ratio] = some false)
    (h_is_Ratio_4 : PySem.W.kitAny K (.type "tuple") [.ref A_Ratio] = some false)
    (h_is_Ratio_3 : PySem.W.kitAny K (.type "str") [.ref A_Ratio] = some false)
    (h_is_Ratio_2 : PySem.W.kitAny K (.type "int") [.ref A_Ratio] = some false)
    (h_is_Ratio_1 : PySem.W.kitAny K (.type "bool") [.ref A_Ratio] = some false)
    (h_is_Ratio_0 : PySem.W.kitAny K (.type "NoneType") [.ref A_Ratio] = some false)
    (h_fn_Ratio_eq : PySem.W.isFn K (.ref A_Ratio_eq) = true)
    (h_ne_Ratio : PySem.W.findIn K (.ref A_Ratio) "__ne__" = some (some (.builtin "object.__ne__")))
    (h_nf_Ratio_0 : PySem.W.notFirst K A_Ratio (.type "NoneType") = true)
    (h_nf_Ratio_1 : PySem.W.notFirst K A_Ratio (.type "bool") = true)
    (h_nf_Ratio_2 : PySem.W.notFirst K A_Ratio (.type "int") = true)
    (h_nf_Ratio_3 : PySem.W.notFirst K A_Ratio (.type "str") = true)
    (h_nf_Ratio_4 : PySem.W.notFirst K A_Ratio (.type "tuple") = true)
    (h_nf_Ratio_5 : PySem.W.notFirst K A_Ratio (.type "list") = true)
    (h_nf_Ratio_Ratio : PySem.W.notFirst K A_Ratio (.ref A_Ratio) = true)
    (h_fn_Ratio_add : PySem.W.isFn K (.ref A_Ratio_add) = true)
    (h_sf_Ratio : PySem.W.selfFirst K A_Ratio = true)
    (h_is_tuple_list_Ratio : PySem.W.kitAny K (.ref A_Ratio) [.type "tuple", .type "list"] = some false)
    (h_is_int_Ratio : PySem.W.kitAny K (.ref A_Ratio) [.type "int"] = some false)
    (h_is_bool_Ratio : PySem.W.kitAny K (.ref A_Ratio) [.type "bool"] = some false)
    (h_fn_Ratio_inverse : PySem.W.isFn K (.ref A_Ratio_inverse) = true)
    (h_fn_Ratio_power : PySem.W.isFn K (.ref A_Ratio_power) = true)
    (h_fn_Ratio_neg : PySem.W.isFn K (.ref A_Ratio_neg) = true)
    (h_em_ZeroDivisor_ZeroDivisor : PySem.W.exmOne K (.ref A_ZeroDivisor) (.ref A_ZeroDivisor) = some true)
    (h_em_Fault_ZeroDivisor : PySem.W.exmOne K (.ref A_Fault) (.ref A_ZeroDivisor) = some false)
    (h_fn_Ratio_over : PySem.W.isFn K (.ref A_Ratio_over) = true)
    (h_pb_Ratio_whole : PySem.W.specialIn K (.ref A_p_Ratio_whole) "__get__" = some (some (.builtin "property.__get__")))
    (h_pc_Ratio_whole : PySem.W.takesIn K (.ref A_p_Ratio_whole) = some true)
    (h_fn_Ratio_is_zero : PySem.W.isFn K (.ref A_Ratio_is_zero) = true)
    (h_fn_Ratio_mul : PySem.W.isFn K (.ref A_Ratio_mul) = true)
    (h_fn_Ratio_floor : PySem.W.isFn K (.ref A_Ratio_floor) = true)
    (h_fn_Ratio_compare : PySem.W.isFn K (.ref A_Ratio_compare) = true)
    (h_fn_Ratio_sign : PySem.W.isFn K (.ref A_Ratio_sign) = true)
    (h_fn_Ratio_sub : PySem.W.isFn K (.ref A_Ratio_sub) = true)
    (h_fn_Ratio_init : PySem.W.isFn K (.ref A_Ratio_init) = true)
    : ∃ (T : Tb) (fd : FuncData), T.K = K ∧ (∀ (s : Shared) (u : Value), BindsTo s fd ⟨[u], []⟩ [("script", u)]) ∧ ∀ base : Heap, K.In base → base.Ns mainGlobals mg → FnOk PP w K mg base (L2.CX PP w) 55 fa fd ["script"] (sp T φ_law) := by
  have key : ∃ a : Ad, Facts K mg a := ⟨⟨A_Ratio_eq, A_Ratio_init, A_Ratio_add, A_total, A_law_cell, A_law_odd, A_law_honest, A_law_draws, A_law_gcd, A_law_rat, A_law_add, A_law_mul, A_law_is_integer, A_law_pair, A_law_drawn, A_law_power, A_Ratio_inverse, A_Ratio_over, A_Ratio_neg, A_Ratio_power, A_law_no_inverse, A_Ratio_sub, A_Ratio_mul, A_Ratio_compare, A_Ratio_sign, A_Ratio_floor, A_Ratio_is_zero, A_Ratio_whole, A_law, A_Fault, A_ZeroDivisor, A_Ratio, A_p_Ratio_whole, A_r_Ratio_whole⟩, ⟨⟨h, KX, G⟩, (seer_mk s1 s2 s3 s4 s5 s6 s7), (fun0 h_l_Ratio_eq h_c_Ratio_eq h_k_Ratio_eq), h_k_Ratio_eq, (fun1 h_l_Ratio_init h_c_Ratio_init h_k_Ratio_init h_d_Ratio_init h_v_Ratio_init (fun z => nomatch z)), h_k_Ratio_init, (fun0 h_l_Ratio_add h_c_Ratio_add h_k_Ratio_add), h_k_Ratio_add, (PySem.W.mg_of KX G h_m_total), (fun0 h_l_total h_c_total h_k_total), h_k_total, (PySem.W.mg_of KX G h_m__law_cell), (fun0 h_l_law_cell h_c_law_cell h_k_law_cell), h_k_law_cell, (PySem.W.mg_of KX G h_m__law_odd), (fun0 h_l_law_odd h_c_law_odd h_k_law_odd), h_k_law_odd, (PySem.W.mg_of KX G h_m__law_honest), (fun0 h_l_law_honest h_c_law_honest h_k_law_honest), h_k_law_honest, (PySem.W.mg_of KX G h_m__law_draws), (fun0 h_l_law_draws h_c_law_draws h_k_law_draws), h_k_law_draws, (PySem.W.mg_of KX G h_m__law_gcd), (fun0 h_l_law_gcd h_c_law_gcd h_k_law_gcd), h_k_law_gcd, (PySem.W.mg_of KX G h_m__law_rat), (fun0 h_l_law_rat h_c_law_rat h_k_law_rat), h_k_law_rat, (PySem.W.mg_of KX G h_m__law_add), (fun0 h_l_law_add h_c_law_add h_k_law_add), h_k_law_add, (PySem.W.mg_of KX G h_m__law_mul), (fun0 h_l_law_mul h_c_law_mul h_k_law_mul), h_k_law_mul, (PySem.W.mg_of KX G h_m__law_is_integer), (fun0 h_l_law_is_integer h_c_law_is_integer h_k_law_is_integer), h_k_law_is_integer, (PySem.W.mg_of KX G h_m__law_pair), (fun0 h_l_law_pair h_c_law_pair h_k_law_pair), h_k_law_pair, (PySem.W.mg_of KX G h_m__law_drawn), (fun0 h_l_law_drawn h_c_law_drawn h_k_law_drawn), h_k_law_drawn, (PySem.W.mg_of KX G h_m__law_power), (fun0 h_l_law_power h_c_law_power h_k_law_power), h_k_law_power, (fun0 h_l_Ratio_inverse h_c_Ratio_inverse h_k_Ratio_inverse), h_k_Ratio_inverse, (fun0 h_l_Ratio_over h_c_Ratio_over h_k_Ratio_over), h_k_Ratio_over, (fun0 h_l_Ratio_neg h_c_Ratio_neg h_k_Ratio_neg), h_k_Ratio_neg, (fun0 h_l_Ratio_power h_c_Ratio_power h_k_Ratio_power), h_k_Ratio_power, (PySem.W.mg_of KX G h_m__law_no_inverse), (fun0 h_l_law_no_inverse h_c_law_no_inverse h_k_law_no_inverse), h_k_law_no_inverse, (fun0 h_l_Ratio_sub h_c_Ratio_sub h_k_Ratio_sub), h_k_Ratio_sub, (fun0 h_l_Ratio_mul h_c_Ratio_mul h_k_Ratio_mul), h_k_Ratio_mul, (fun0 h_l_Ratio_compare h_c_Ratio_compare h_k_Ratio_compare), h_k_Ratio_compare, (fun0 h_l_Ratio_sign h_c_Ratio_sign h_k_Ratio_sign), h_k_Ratio_sign, (fun0 h_l_Ratio_floor h_c_Ratio_floor h_k_Ratio_floor), h_k_Ratio_floor, (fun0 h_l_Ratio_is_zero h_c_Ratio_is_zero h_k_Ratio_is_zero), h_k_Ratio_is_zero, (fun0 h_l_Ratio_whole h_c_Ratio_whole h_k_Ratio_whole), h_k_Ratio_whole, (PySem.W.mg_of KX G h_m_law), (fun0 h_l_law h_c_law h_k_law), h_k_law, (PySem.W.mg_of KX G h_m_Fault), (PySem.W.mg_of KX G h_m_ZeroDivisor), (PySem.W.mg_of KX G h_m_Ratio), (PySem.W.mg_of KX G h_m_gcd), h_mk_Ratio, h_in_Ratio, h_kc_Ratio, h_xi_ZeroDivisor, h_kx_ZeroDivisor, h_sx_ZeroDivisor, h_tx_ZeroDivisor, h_z_isinstance, h_is_Ratio_Ratio, h_ca_Ratio, h_cn_, h_ct_, h_ob_Ratio, h_pg_Ratio, h_hd_Ratio, h_po_Ratio, h_sa_Ratio, h_na_Ratio_n, h_na_Ratio_d, h_is_Ratio_5, h_is_Ratio_4, h_is_Ratio_3, h_is_Ratio_2, h_is_Ratio_1, h_is_Ratio_0, h_op_Ratio_eq, h_fn_Ratio_eq, h_ne_Ratio, h_nf_Ratio_0, h_nf_Ratio_1, h_nf_Ratio_2, h_nf_Ratio_3, h_nf_Ratio_4, h_nf_Ratio_5, h_nf_Ratio_Ratio, h_op_Ratio_add, h_fn_Ratio_add, h_sf_Ratio, h_z_len, h_is_tuple_list_Ratio, h_z_list, h_z_tuple, h_z_range, h_z_int, h_z_abs, h_is_int_Ratio, h_is_bool_Ratio, h_z_bool, h_fn_Ratio_inverse, h_me_Ratio_inverse, h_fn_Ratio_power, h_me_Ratio_power, h_op_Ratio_neg, h_fn_Ratio_neg, h_em_ZeroDivisor_ZeroDivisor, h_em_Fault_ZeroDivisor, h_fn_Ratio_over, h_me_Ratio_over, h_pa_Ratio_whole, h_pb_Ratio_whole, h_pc_Ratio_whole, h_pd_Ratio_whole, h_fn_Ratio_is_zero, h_me_Ratio_is_zero, h_op_Ratio_mul, h_fn_Ratio_mul, h_fn_Ratio_floor, h_me_Ratio_floor, h_fn_Ratio_compare, h_me_Ratio_compare, h_fn_Ratio_sign, h_me_Ratio_sign, h_op_Ratio_sub, h_fn_Ratio_sub, h_fn_Ratio_init⟩⟩
  obtain ⟨a, H⟩ := key
  have e := hmg.symm.trans H.m_law
  cases e
  obtain ⟨fd, F, _⟩ := o_law (w := w) (base := h) H
  refine ⟨TT K a, fd, rfl, fun s u => F.bindsA (ps := ["script"]) (fun _ _ _ _ _ _ us hl => match us, hl with | [_], _ => rfl) s [u] rfl, fun base _ _ => ?_⟩
  obtain ⟨fd2, F2, ok⟩ := o_law (w := w) (base := base) H
  obtain rfl : fd2 = fd := funD_one F2 F
  exact ok
end L2.S.W

set_option Elab.async false
set_option linter.all false
set_option maxRecDepth 100000
set_option maxHeartbeats 8000000
namespace L2.S.W
open PySem PySem.Spec PyProof.Rows L2 L2.S
theorem law_cell {ns : List Int} {k : Nat} : φ_law_cell [.val (.ro (ns.map D.int)), .val (.int k)] = .ok (.d (.int (ns.getD k 0))) [] := by
  unfold φ_law_cell fnF bodyF g_law_cell
  simp only [sSeq, sIf, cTr, cOp, two, ofOp, cV, cBi, cAd, cA0, cK, sRet, cIx, sNx, List.length_cons, List.length_nil, if_true, List.getElem?_cons_zero, List.getElem?_cons_succ, List.replicate, List.append_nil, Nat.sub_self, List.cons_append, List.nil_append, R.bind, R.bindT, R.bindA, R.bindS, R.bindR, RT.bindS, RA.bind, avD, bLen, Option.map, pLt, pLtI, orP, pI, T2, truthD, List.length_map]
  by_cases h : k < ns.length
  · have e : ixD (D.ro (List.map D.int ns)) (D.int (k : Int)) = some (.int ns[k]) := by
      unfold ixD
      show atI (List.map D.int ns) (k : Int) = _
      unfold atI ixN
      simp [h]
    rw [if_pos (by simpa using h), e]
    simp [outsA, List.getD_eq_getElem?_getD, List.getElem?_eq_getElem h]
  · rw [if_neg (by simpa using h)]
    simp [outsA, List.getD_eq_getElem?_getD, List.getElem?_eq_none (Nat.le_of_not_lt h)]
end L2.S.W

set_option Elab.async false
set_option linter.all false
set_option maxRecDepth 100000
set_option maxHeartbeats 8000000
namespace L2.S.W
open PySem PySem.Spec PyProof.Rows L2 L2.S
theorem law_draws {ns : List Int} {k : Nat} {count : Nat} {bound : Int} (hk : k < 1000) (hc : count < 1000) (hb : 0 < bound) :
    ∃ rs : List Int, φ_law_draws [.val (.ro (ns.map D.int)), .val (.int k), .val (.int count), .val (.int bound)] = .ok (.o (.l (lsI rs))) [] ∧ rs.length = count ∧ ∀ r ∈ rs, 0 ≤ r ∧ r < bound := by
  have hb0 : bound ≠ 0 := by omega
  obtain ⟨cell, hcell⟩ : ∃ c, c = ns.getD k 0 := ⟨_, rfl⟩
  have e1 : sSet 4 (cCall φ_law_cell [] (cAd (cV 0) (cAd (cV 1) (cA0)))) [.val (.ro (ns.map D.int)), .val (.int k), .val (.int count), .val (.int bound), .un, .un, .un, .un, .un] = .nx [.val (.ro (ns.map D.int)), .val (.int k), .val (.int count), .val (.int bound), .val (.int cell), .un, .un, .un, .un] := by
    simp only [sIf, cTr, cOp, two, ofOp, cV, cBi, cAd, cA0, cAs, cK, sRet, sRetO, cIx, cIxO, withO, sNx, sSet, sSetO, sDrop, cApp, cCall, callR, svs, slots, putA, setO, cMake, cMeth, cFld, cSfld, sFld0, cTup, cLst, cAnd, cOr, cNot, asB, cAndT, cOrT, cNotT, cIf, cIsi, cNeg, cNegM, cProp, cLenO, sRetN, sBk, sCt, sAsg, gT, gC, gN, g0, iD, iR1, iR2, avI, R.bind, R.bindT, R.bindA, R.bindS, R.bindR, RT.bind, RT.bindT, RT.bindS, RA.bind, RA.bindI, avD, bLen, bInt, bAbs, bGcd, bTup, bLst, truthD, kd, fz, ofR, canSet, isOwn, add_ii, sub_ii, lt_ii, le_ii, gt_ii, ge_ii, eq_ii, ne_ii, eqM_i, own_i, own_oo, eqX_i, List.lookup, Option.map, Option.bind, List.map_nil, List.map_cons, List.append_nil, List.nil_append, List.cons_append, List.getElem?_cons_zero, List.getElem?_cons_succ, List.set, List.nodup_nil, List.length_cons, List.length_nil, List.length_map, if_true, if_false, Bool.false_eq_true, reduceIte, Bool.not_true, Bool.not_false, Bool.and_true, Bool.and_false, Bool.true_and, Bool.false_and, Nat.reduceAdd, Nat.zero_le, Nat.reduceBEq, beq_self_eq_true, decide_true, decide_false, law_cell, ← hcell]
  have e2 : sSetO 5 (cLst cA0) [.val (.ro (ns.map D.int)), .val (.int k), .val (.int count), .val (.int bound), .val (.int cell), .un, .un, .un, .un] = .nx [.val (.ro (ns.map D.int)), .val (.int k), .val (.int count), .val (.int bound), .val (.int cell), .own false (.l []), .un, .un, .un] := by
    simp only [sIf, cTr, cOp, two, ofOp, cV, cBi, cAd, cA0, cAs, cK, sRet, sRetO, cIx, cIxO, withO, sNx, sSet, sSetO, sDrop, cApp, cCall, callR, svs, slots, putA, setO, cMake, cMeth, cFld, cSfld, sFld0, cTup, cLst, cAnd, cOr, cNot, asB, cAndT, cOrT, cNotT, cIf, cIsi, cNeg, cNegM, cProp, cLenO, sRetN, sBk, sCt, sAsg, gT, gC, gN, g0, iD, iR1, iR2, avI, R.bind, R.bindT, R.bindA, R.bindS, R.bindR, RT.bind, RT.bindT, RT.bindS, RA.bind, RA.bindI, avD, bLen, bInt, bAbs, bGcd, bTup, bLst, truthD, kd, fz, ofR, canSet, isOwn, add_ii, sub_ii, lt_ii, le_ii, gt_ii, ge_ii, eq_ii, ne_ii, eqM_i, own_i, own_oo, eqX_i, List.lookup, Option.map, Option.bind, List.map_nil, List.map_cons, List.append_nil, List.nil_append, List.cons_append, List.getElem?_cons_zero, List.getElem?_cons_succ, List.set, List.nodup_nil, List.length_cons, List.length_nil, List.length_map, if_true, if_false, Bool.false_eq_true, reduceIte, Bool.not_true, Bool.not_false, Bool.and_true, Bool.and_false, Bool.true_and, Bool.false_and, Nat.reduceAdd, Nat.zero_le, Nat.reduceBEq, beq_self_eq_true, decide_true, decide_false]
  have rng : ∀ E : Env', iR1 (cAd (cV 2) cA0) (.val (.ro (ns.map D.int)) :: .val (.int k) :: .val (.int count) :: E) = .ok ((List.range count).map fun (i : Nat) => D.int (i : Int)) (.val (.ro (ns.map D.int)) :: .val (.int k) :: .val (.int count) :: E) := fun E => by
    exact iR1_at rfl (by omega)
  suffices h : ∃ rs : List Int, (∃ E : Env', g_law_draws (startE [.val (.ro (ns.map D.int)), .val (.int k), .val (.int count), .val (.int bound)] 9) = .rt (.o (.l (lsI rs))) E) ∧ rs.length = count ∧ ∀ r ∈ rs, 0 ≤ r ∧ r < bound by
    obtain ⟨rs, ⟨E, h1⟩, h2⟩ := h
    exact ⟨rs, fnF_rt rfl rfl h1 (outsA_val [_, _, _, _] 0 E), h2⟩
  have s0 : startE [.val (.ro (ns.map D.int)), .val (.int k), .val (.int count), .val (.int bound)] 9 = [.val (.ro (ns.map D.int)), .val (.int k), .val (.int count), .val (.int bound), .un, .un, .un, .un, .un] := rfl
  rw [s0]
  unfold g_law_draws
  rw [seq_nx e1, seq_nx e2]
  by_cases hbig : (10 : Int) ^ 18 ≤ cell
  · -- digits of a great cell
    obtain ⟨e', h1, h2⟩ := for_run (f := iR1 (cAd (cV 2) cA0)) (h := gN 6) (t := sSeq (sDrop (cApp 5 (cOp pModI (cBi bInt (cAd (cV 4) cA0)) (cV 3)))) (sSet 4 (cOp pDivG (cBi bInt (cAd (cV 4) cA0)) (cV 3))))
      (env := [.val (.ro (ns.map D.int)), .val (.int k), .val (.int count), .val (.int bound), .val (.int cell), .own false (.l []), .un, .un, .un])
      (fun i e => ∃ c rs x, e = [.val (.ro (ns.map D.int)), .val (.int k), .val (.int count), .val (.int bound), .val (.int c), .own false (.l (lsI rs)), x, .un, .un] ∧ Fr1 x ∧ rs.length = i ∧ ∀ r ∈ rs, 0 ≤ r ∧ r < bound)
      (rng _) ⟨cell, [], .un, rfl, .inl rfl, rfl, by simp⟩ (by
        rintro i d e hd ⟨c, rs, x, rfl, hx, hl, hr⟩
        have hi := (rng_get hd).1
        refine ⟨_, gN_at (hx.can rfl), _, .inl ?_, c.fdiv bound, rs ++ [c % bound], .val d, rfl, .inr ⟨d, rfl⟩, by simp [hl], fun r h => ?_⟩
        · have q : rs.length < 16777216 := by omega
          have a1 : sDrop (cApp 5 (cOp pModI (cBi bInt (cAd (cV 4) cA0)) (cV 3))) [.val (.ro (ns.map D.int)), .val (.int k), .val (.int count), .val (.int bound), .val (.int c), .own false (.l (lsI rs)), .val d, .un, .un] = .nx [.val (.ro (ns.map D.int)), .val (.int k), .val (.int count), .val (.int bound), .val (.int c), .own false (.l (lsI (rs ++ [c % bound]))), .val d, .un, .un] := by
            simp only [sIf, cTr, cOp, two, ofOp, cV, cBi, cAd, cA0, cAs, cK, sRet, sRetO, cIx, cIxO, withO, sNx, sSet, sSetO, sDrop, cApp, cCall, callR, svs, slots, putA, setO, cMake, cMeth, cFld, cSfld, sFld0, cTup, cLst, cAnd, cOr, cNot, asB, cAndT, cOrT, cNotT, cIf, cIsi, cNeg, cNegM, cProp, cLenO, sRetN, sBk, sCt, sAsg, gT, gC, gN, g0, iD, iR1, iR2, avI, R.bind, R.bindT, R.bindA, R.bindS, R.bindR, RT.bind, RT.bindT, RT.bindS, RA.bind, RA.bindI, avD, bLen, bInt, bAbs, bGcd, bTup, bLst, truthD, kd, fz, ofR, canSet, isOwn, add_ii, sub_ii, lt_ii, le_ii, gt_ii, ge_ii, eq_ii, ne_ii, eqM_i, own_i, own_oo, eqX_i, List.lookup, Option.map, Option.bind, List.map_nil, List.map_cons, List.append_nil, List.nil_append, List.cons_append, List.getElem?_cons_zero, List.getElem?_cons_succ, List.set, List.nodup_nil, List.length_cons, List.length_nil, List.length_map, if_true, if_false, Bool.false_eq_true, reduceIte, Bool.not_true, Bool.not_false, Bool.and_true, Bool.and_false, Bool.true_and, Bool.false_and, Nat.reduceAdd, Nat.zero_le, Nat.reduceBEq, beq_self_eq_true, decide_true, decide_false, mod_ii hb, lsI_len, if_pos q, lsI_app]
          refine (seq_nx a1).trans ?_
          simp only [sIf, cTr, cOp, two, ofOp, cV, cBi, cAd, cA0, cAs, cK, sRet, sRetO, cIx, cIxO, withO, sNx, sSet, sSetO, sDrop, cApp, cCall, callR, svs, slots, putA, setO, cMake, cMeth, cFld, cSfld, sFld0, cTup, cLst, cAnd, cOr, cNot, asB, cAndT, cOrT, cNotT, cIf, cIsi, cNeg, cNegM, cProp, cLenO, sRetN, sBk, sCt, sAsg, gT, gC, gN, g0, iD, iR1, iR2, avI, R.bind, R.bindT, R.bindA, R.bindS, R.bindR, RT.bind, RT.bindT, RT.bindS, RA.bind, RA.bindI, avD, bLen, bInt, bAbs, bGcd, bTup, bLst, truthD, kd, fz, ofR, canSet, isOwn, add_ii, sub_ii, lt_ii, le_ii, gt_ii, ge_ii, eq_ii, ne_ii, eqM_i, own_i, own_oo, eqX_i, List.lookup, Option.map, Option.bind, List.map_nil, List.map_cons, List.append_nil, List.nil_append, List.cons_append, List.getElem?_cons_zero, List.getElem?_cons_succ, List.set, List.nodup_nil, List.length_cons, List.length_nil, List.length_map, if_true, if_false, Bool.false_eq_true, reduceIte, Bool.not_true, Bool.not_false, Bool.and_true, Bool.and_false, Bool.true_and, Bool.false_and, Nat.reduceAdd, Nat.zero_le, Nat.reduceBEq, beq_self_eq_true, decide_true, decide_false, div_ii hb0]
        · rcases List.mem_append.mp h with h | h
          · exact hr r h
          · simp at h
            subst h
            exact ⟨Int.emod_nonneg _ hb0, Int.emod_lt_of_pos _ hb⟩)
    obtain ⟨c, rs, x, rfl, hx, hl, hr⟩ := h2
    have hlen : rs.length = count := by rw [hl]; simp
    refine ⟨rs, ?_, hlen, hr⟩
    have h18 : (1000000000000000000 : Int) ≤ cell := hbig
    have hp : cTr (cOp pGe (cV 4) (cOp pPowI (cK (.int 10)) (cK (.int 18)))) [.val (.ro (ns.map D.int)), .val (.int k), .val (.int count), .val (.int bound), .val (.int cell), .own false (.l []), .un, .un, .un] = .ok true [.val (.ro (ns.map D.int)), .val (.int k), .val (.int count), .val (.int bound), .val (.int cell), .own false (.l []), .un, .un, .un] := by
      simp only [sIf, cTr, cOp, two, ofOp, cV, cBi, cAd, cA0, cAs, cK, sRet, sRetO, cIx, cIxO, withO, sNx, sSet, sSetO, sDrop, cApp, cCall, callR, svs, slots, putA, setO, cMake, cMeth, cFld, cSfld, sFld0, cTup, cLst, cAnd, cOr, cNot, asB, cAndT, cOrT, cNotT, cIf, cIsi, cNeg, cNegM, cProp, cLenO, sRetN, sBk, sCt, sAsg, gT, gC, gN, g0, iD, iR1, iR2, avI, R.bind, R.bindT, R.bindA, R.bindS, R.bindR, RT.bind, RT.bindT, RT.bindS, RA.bind, RA.bindI, avD, bLen, bInt, bAbs, bGcd, bTup, bLst, truthD, kd, fz, ofR, canSet, isOwn, add_ii, sub_ii, lt_ii, le_ii, gt_ii, ge_ii, eq_ii, ne_ii, eqM_i, own_i, own_oo, eqX_i, List.lookup, Option.map, Option.bind, List.map_nil, List.map_cons, List.append_nil, List.nil_append, List.cons_append, List.getElem?_cons_zero, List.getElem?_cons_succ, List.set, List.nodup_nil, List.length_cons, List.length_nil, List.length_map, if_true, if_false, Bool.false_eq_true, reduceIte, Bool.not_true, Bool.not_false, Bool.and_true, Bool.and_false, Bool.true_and, Bool.false_and, Nat.reduceAdd, Nat.zero_le, Nat.reduceBEq, beq_self_eq_true, decide_true, decide_false, pow_ii (show powOk 10 18 = true by decide)]
      simp [h18]
    have b4 : sIf (cTr (cOp pGe (cV 4) (cOp pPowI (cK (.int 10)) (cK (.int 18))))) (sSeq (sFor (iR1 (cAd (cV 2) (cA0))) (gN 6) (sSeq (sDrop (cApp 5 (cOp pModI (cBi bInt (cAd (cV 4) (cA0))) (cV 3)))) (sSet 4 (cOp pDivG (cBi bInt (cAd (cV 4) (cA0))) (cV 3))))) (sRetO 5)) sNx [.val (.ro (ns.map D.int)), .val (.int k), .val (.int count), .val (.int bound), .val (.int cell), .own false (.l []), .un, .un, .un] = .rt (.o (.l (lsI rs))) [.val (.ro (ns.map D.int)), .val (.int k), .val (.int count), .val (.int bound), .val (.int c), .un, x, .un, .un] := by
      exact (if_t hp).trans ((seq_nx h1).trans rfl)
    exact ⟨_, seq_rt b4⟩
  · have hp : cTr (cOp pGe (cV 4) (cOp pPowI (cK (.int 10)) (cK (.int 18)))) [.val (.ro (ns.map D.int)), .val (.int k), .val (.int count), .val (.int bound), .val (.int cell), .own false (.l []), .un, .un, .un] = .ok false [.val (.ro (ns.map D.int)), .val (.int k), .val (.int count), .val (.int bound), .val (.int cell), .own false (.l []), .un, .un, .un] := by
      simp only [sIf, cTr, cOp, two, ofOp, cV, cBi, cAd, cA0, cAs, cK, sRet, sRetO, cIx, cIxO, withO, sNx, sSet, sSetO, sDrop, cApp, cCall, callR, svs, slots, putA, setO, cMake, cMeth, cFld, cSfld, sFld0, cTup, cLst, cAnd, cOr, cNot, asB, cAndT, cOrT, cNotT, cIf, cIsi, cNeg, cNegM, cProp, cLenO, sRetN, sBk, sCt, sAsg, gT, gC, gN, g0, iD, iR1, iR2, avI, R.bind, R.bindT, R.bindA, R.bindS, R.bindR, RT.bind, RT.bindT, RT.bindS, RA.bind, RA.bindI, avD, bLen, bInt, bAbs, bGcd, bTup, bLst, truthD, kd, fz, ofR, canSet, isOwn, add_ii, sub_ii, lt_ii, le_ii, gt_ii, ge_ii, eq_ii, ne_ii, eqM_i, own_i, own_oo, eqX_i, List.lookup, Option.map, Option.bind, List.map_nil, List.map_cons, List.append_nil, List.nil_append, List.cons_append, List.getElem?_cons_zero, List.getElem?_cons_succ, List.set, List.nodup_nil, List.length_cons, List.length_nil, List.length_map, if_true, if_false, Bool.false_eq_true, reduceIte, Bool.not_true, Bool.not_false, Bool.and_true, Bool.and_false, Bool.true_and, Bool.false_and, Nat.reduceAdd, Nat.zero_le, Nat.reduceBEq, beq_self_eq_true, decide_true, decide_false, pow_ii (show powOk 10 18 = true by decide)]
      have h18 : ¬ (1000000000000000000 : Int) ≤ cell := hbig
      simp at h18
      simp [h18]
    have b4 : sIf (cTr (cOp pGe (cV 4) (cOp pPowI (cK (.int 10)) (cK (.int 18))))) (sSeq (sFor (iR1 (cAd (cV 2) (cA0))) (gN 6) (sSeq (sDrop (cApp 5 (cOp pModI (cBi bInt (cAd (cV 4) (cA0))) (cV 3)))) (sSet 4 (cOp pDivG (cBi bInt (cAd (cV 4) (cA0))) (cV 3))))) (sRetO 5)) sNx [.val (.ro (ns.map D.int)), .val (.int k), .val (.int count), .val (.int bound), .val (.int cell), .own false (.l []), .un, .un, .un] = .nx [.val (.ro (ns.map D.int)), .val (.int k), .val (.int count), .val (.int bound), .val (.int cell), .own false (.l []), .un, .un, .un] := by
      exact (if_f hp).trans rfl
    have lt31 : ∀ {x : Int}, 0 ≤ x → x < 8589934592 → x.natAbs < 2 ^ 40 := fun h1 h2 => by omega
    have b5 : sSet 7 (cOp pAdd (cOp pAdd (cOp pModI (cBi bInt (cAd (cV 4) (cA0))) (cK (.int 2147483647))) (cOp pMul (cK (.int 3)) (cV 1))) (cK (.int 1))) [.val (.ro (ns.map D.int)), .val (.int k), .val (.int count), .val (.int bound), .val (.int cell), .own false (.l []), .un, .un, .un] = .nx [.val (.ro (ns.map D.int)), .val (.int k), .val (.int count), .val (.int bound), .val (.int cell), .own false (.l []), .un, .val (.int (cell % 2147483647 + 3 * k + 1)), .un] := by
      simp only [sIf, cTr, cOp, two, ofOp, cV, cBi, cAd, cA0, cAs, cK, sRet, sRetO, cIx, cIxO, withO, sNx, sSet, sSetO, sDrop, cApp, cCall, callR, svs, slots, putA, setO, cMake, cMeth, cFld, cSfld, sFld0, cTup, cLst, cAnd, cOr, cNot, asB, cAndT, cOrT, cNotT, cIf, cIsi, cNeg, cNegM, cProp, cLenO, sRetN, sBk, sCt, sAsg, gT, gC, gN, g0, iD, iR1, iR2, avI, R.bind, R.bindT, R.bindA, R.bindS, R.bindR, RT.bind, RT.bindT, RT.bindS, RA.bind, RA.bindI, avD, bLen, bInt, bAbs, bGcd, bTup, bLst, truthD, kd, fz, ofR, canSet, isOwn, add_ii, sub_ii, lt_ii, le_ii, gt_ii, ge_ii, eq_ii, ne_ii, eqM_i, own_i, own_oo, eqX_i, List.lookup, Option.map, Option.bind, List.map_nil, List.map_cons, List.append_nil, List.nil_append, List.cons_append, List.getElem?_cons_zero, List.getElem?_cons_succ, List.set, List.nodup_nil, List.length_cons, List.length_nil, List.length_map, if_true, if_false, Bool.false_eq_true, reduceIte, Bool.not_true, Bool.not_false, Bool.and_true, Bool.and_false, Bool.true_and, Bool.false_and, Nat.reduceAdd, Nat.zero_le, Nat.reduceBEq, beq_self_eq_true, decide_true, decide_false, mod_ii (show (0 : Int) < 2147483647 by decide), mul_ii (mulOk_lt (i := 3) (j := (k : Int)) (a := 40) (b := 40) (by decide) (by omega) (by decide) (by decide) (by decide))]
    have n0 : 0 ≤ cell % 2147483647 := Int.emod_nonneg _ (by decide)
    have n1 : cell % 2147483647 < 2147483647 := Int.emod_lt_of_pos _ (by decide)
    obtain ⟨e', h1, h2⟩ := for_run (f := iR1 (cAd (cV 2) cA0)) (h := gN 6)
      (t := sSeq (sSet 7 (cOp pModI (cBi bInt (cAd (cOp pAdd (cOp pAdd (cOp pMul (cV 7) (cK (.int 48271))) (cOp pMul (cK (.int 11)) (cV 6))) (cV 1)) (cA0))) (cK (.int 2147483647)))) (
sSeq (sSet 8 (cOp pModI (cBi bInt (cAd (cOp pAdd (cOp pAdd (cOp pMul (cV 7) (cK (.int 69621))) (cOp pMul (cK (.int 5)) (cV 6))) (cK (.int 7))) (cA0))) (cK (.int 2147483629)))) (
sDrop (cApp 5 (cOp pModI (cBi bInt (cAd (cV 8) (cA0))) (cV 3))))))
      (env := [.val (.ro (ns.map D.int)), .val (.int k), .val (.int count), .val (.int bound), .val (.int cell), .own false (.l []), .un, .val (.int (cell % 2147483647 + 3 * k + 1)), .un])
      (fun i e => ∃ m rs x y, e = [.val (.ro (ns.map D.int)), .val (.int k), .val (.int count), .val (.int bound), .val (.int cell), .own false (.l (lsI rs)), x, .val (.int m), y] ∧ Fr1 x ∧ Fr1 y ∧ 0 ≤ m ∧ m < 8589934592 ∧ rs.length = i ∧ ∀ r ∈ rs, 0 ≤ r ∧ r < bound)
      (rng _) ⟨_, [], .un, .un, rfl, .un, .un, by omega, by omega, rfl, by simp⟩ (by
        rintro i d e hd ⟨m, rs, x, y, rfl, hx, hy, m0, m1, hl, hr⟩
        obtain ⟨hi, rfl⟩ := rng_get hd
        obtain ⟨m', hm'⟩ : ∃ m', m' = (m * 48271 + 11 * (i : Int) + k) % 2147483647 := ⟨_, rfl⟩
        obtain ⟨u, hu⟩ : ∃ u, u = (m' * 69621 + 5 * (i : Int) + 7) % 2147483629 := ⟨_, rfl⟩
        have m2 : 0 ≤ m' := by rw [hm']; exact Int.emod_nonneg _ (by decide)
        have m3 : m' < 2147483647 := by rw [hm']; exact Int.emod_lt_of_pos _ (by decide)
        refine ⟨_, gN_at (hx.can rfl), _, .inl ?_, m', rs ++ [u % bound], .val (.int i), .val (.int u), rfl, .val, .val, m2, by omega, by simp [hl], fun r h => ?_⟩
        · have q : rs.length < 16777216 := by omega
          have a1 : sSet 7 (cOp pModI (cBi bInt (cAd (cOp pAdd (cOp pAdd (cOp pMul (cV 7) (cK (.int 48271))) (cOp pMul (cK (.int 11)) (cV 6))) (cV 1)) (cA0))) (cK (.int 2147483647))) [.val (.ro (ns.map D.int)), .val (.int k), .val (.int count), .val (.int bound), .val (.int cell), .own false (.l (lsI rs)), .val (.int i), .val (.int m), y] = .nx [.val (.ro (ns.map D.int)), .val (.int k), .val (.int count), .val (.int bound), .val (.int cell), .own false (.l (lsI rs)), .val (.int i), .val (.int m'), y] := by
            simp only [sIf, cTr, cOp, two, ofOp, cV, cBi, cAd, cA0, cAs, cK, sRet, sRetO, cIx, cIxO, withO, sNx, sSet, sSetO, sDrop, cApp, cCall, callR, svs, slots, putA, setO, cMake, cMeth, cFld, cSfld, sFld0, cTup, cLst, cAnd, cOr, cNot, asB, cAndT, cOrT, cNotT, cIf, cIsi, cNeg, cNegM, cProp, cLenO, sRetN, sBk, sCt, sAsg, gT, gC, gN, g0, iD, iR1, iR2, avI, R.bind, R.bindT, R.bindA, R.bindS, R.bindR, RT.bind, RT.bindT, RT.bindS, RA.bind, RA.bindI, avD, bLen, bInt, bAbs, bGcd, bTup, bLst, truthD, kd, fz, ofR, canSet, isOwn, add_ii, sub_ii, lt_ii, le_ii, gt_ii, ge_ii, eq_ii, ne_ii, eqM_i, own_i, own_oo, eqX_i, List.lookup, Option.map, Option.bind, List.map_nil, List.map_cons, List.append_nil, List.nil_append, List.cons_append, List.getElem?_cons_zero, List.getElem?_cons_succ, List.set, List.nodup_nil, List.length_cons, List.length_nil, List.length_map, if_true, if_false, Bool.false_eq_true, reduceIte, Bool.not_true, Bool.not_false, Bool.and_true, Bool.and_false, Bool.true_and, Bool.false_and, Nat.reduceAdd, Nat.zero_le, Nat.reduceBEq, beq_self_eq_true, decide_true, decide_false, mod_ii (show (0 : Int) < 2147483647 by decide), mul_ii (mulOk_lt (lt31 m0 m1) (show (48271 : Int).natAbs < 2 ^ 40 by decide) (by decide) (by decide) (by decide)), mul_ii (mulOk_lt (show (11 : Int).natAbs < 2 ^ 40 by decide) (show (i : Int).natAbs < 2 ^ 40 by omega) (by decide) (by decide) (by decide)), ← hm']
          have a2 : sSet 8 (cOp pModI (cBi bInt (cAd (cOp pAdd (cOp pAdd (cOp pMul (cV 7) (cK (.int 69621))) (cOp pMul (cK (.int 5)) (cV 6))) (cK (.int 7))) (cA0))) (cK (.int 2147483629))) [.val (.ro (ns.map D.int)), .val (.int k), .val (.int count), .val (.int bound), .val (.int cell), .own false (.l (lsI rs)), .val (.int i), .val (.int m'), y] = .nx [.val (.ro (ns.map D.int)), .val (.int k), .val (.int count), .val (.int bound), .val (.int cell), .own false (.l (lsI rs)), .val (.int i), .val (.int m'), .val (.int u)] := by
            have cy : ∀ (E : Env'), E[8]? = some y → canSet E 8 = true := fun E h => hy.can h
            unfold sSet
            rw [show (cOp pModI (cBi bInt (cAd (cOp pAdd (cOp pAdd (cOp pMul (cV 7) (cK (.int 69621))) (cOp pMul (cK (.int 5)) (cV 6))) (cK (.int 7))) (cA0))) (cK (.int 2147483629))) [.val (.ro (ns.map D.int)), .val (.int k), .val (.int count), .val (.int bound), .val (.int cell), .own false (.l (lsI rs)), .val (.int i), .val (.int m'), y] = .ok (.d (.int u)) [.val (.ro (ns.map D.int)), .val (.int k), .val (.int count), .val (.int bound), .val (.int cell), .own false (.l (lsI rs)), .val (.int i), .val (.int m'), y] by
              simp only [sIf, cTr, cOp, two, ofOp, cV, cBi, cAd, cA0, cAs, cK, sRet, sRetO, cIx, cIxO, withO, sNx, sSet, sSetO, sDrop, cApp, cCall, callR, svs, slots, putA, setO, cMake, cMeth, cFld, cSfld, sFld0, cTup, cLst, cAnd, cOr, cNot, asB, cAndT, cOrT, cNotT, cIf, cIsi, cNeg, cNegM, cProp, cLenO, sRetN, sBk, sCt, sAsg, gT, gC, gN, g0, iD, iR1, iR2, avI, R.bind, R.bindT, R.bindA, R.bindS, R.bindR, RT.bind, RT.bindT, RT.bindS, RA.bind, RA.bindI, avD, bLen, bInt, bAbs, bGcd, bTup, bLst, truthD, kd, fz, ofR, canSet, isOwn, add_ii, sub_ii, lt_ii, le_ii, gt_ii, ge_ii, eq_ii, ne_ii, eqM_i, own_i, own_oo, eqX_i, List.lookup, Option.map, Option.bind, List.map_nil, List.map_cons, List.append_nil, List.nil_append, List.cons_append, List.getElem?_cons_zero, List.getElem?_cons_succ, List.set, List.nodup_nil, List.length_cons, List.length_nil, List.length_map, if_true, if_false, Bool.false_eq_true, reduceIte, Bool.not_true, Bool.not_false, Bool.and_true, Bool.and_false, Bool.true_and, Bool.false_and, Nat.reduceAdd, Nat.zero_le, Nat.reduceBEq, beq_self_eq_true, decide_true, decide_false, mod_ii (show (0 : Int) < 2147483629 by decide), mul_ii (mulOk_lt (lt31 m2 (by omega)) (show (69621 : Int).natAbs < 2 ^ 40 by decide) (by decide) (by decide) (by decide)), mul_ii (mulOk_lt (show (5 : Int).natAbs < 2 ^ 40 by decide) (show (i : Int).natAbs < 2 ^ 40 by omega) (by decide) (by decide) (by decide)), ← hu]]
            simp only [R.bindS]
            rw [if_pos (cy _ rfl)]
            rfl
          refine (seq_nx a1).trans ((seq_nx a2).trans ?_)
          simp only [sIf, cTr, cOp, two, ofOp, cV, cBi, cAd, cA0, cAs, cK, sRet, sRetO, cIx, cIxO, withO, sNx, sSet, sSetO, sDrop, cApp, cCall, callR, svs, slots, putA, setO, cMake, cMeth, cFld, cSfld, sFld0, cTup, cLst, cAnd, cOr, cNot, asB, cAndT, cOrT, cNotT, cIf, cIsi, cNeg, cNegM, cProp, cLenO, sRetN, sBk, sCt, sAsg, gT, gC, gN, g0, iD, iR1, iR2, avI, R.bind, R.bindT, R.bindA, R.bindS, R.bindR, RT.bind, RT.bindT, RT.bindS, RA.bind, RA.bindI, avD, bLen, bInt, bAbs, bGcd, bTup, bLst, truthD, kd, fz, ofR, canSet, isOwn, add_ii, sub_ii, lt_ii, le_ii, gt_ii, ge_ii, eq_ii, ne_ii, eqM_i, own_i, own_oo, eqX_i, List.lookup, Option.map, Option.bind, List.map_nil, List.map_cons, List.append_nil, List.nil_append, List.cons_append, List.getElem?_cons_zero, List.getElem?_cons_succ, List.set, List.nodup_nil, List.length_cons, List.length_nil, List.length_map, if_true, if_false, Bool.false_eq_true, reduceIte, Bool.not_true, Bool.not_false, Bool.and_true, Bool.and_false, Bool.true_and, Bool.false_and, Nat.reduceAdd, Nat.zero_le, Nat.reduceBEq, beq_self_eq_true, decide_true, decide_false, mod_ii hb, lsI_len, if_pos q, lsI_app]
        · rcases List.mem_append.mp h with h | h
          · exact hr r h
          · simp at h
            subst h
            exact ⟨Int.emod_nonneg _ hb0, Int.emod_lt_of_pos _ hb⟩)
    obtain ⟨m, rs, x, y, rfl, hx, hy, m0, m1, hl, hr⟩ := h2
    have hlen : rs.length = count := by rw [hl]; simp
    refine ⟨rs, ?_, hlen, hr⟩
    rw [seq_nx b4, seq_nx b5, seq_nx h1]
    exact ⟨_, rfl⟩
end L2.S.W

set_option Elab.async false
set_option linter.all false
set_option maxRecDepth 100000
set_option maxHeartbeats 8000000
namespace L2.S.W
open PySem PySem.Spec PyProof.Rows L2 L2.S
theorem wh_at {n : Env' → Nat} {c : Env' → RT} {t : Env' → RS} {e : Env'} : sWh n c t e = whL c t (n e) e := rfl
theorem law_gcd (a b : Int) : φ_law_gcd [.val (.int a), .val (.int b)] = .ok (.d (.int (Int.gcd a b))) [] := by
  have s0 : startE [.val (.int a), .val (.int b)] 5 = [.val (.int a), .val (.int b), .un, .un, .un] := rfl
  have ab : ∀ x : Int, (if x < 0 then -x else x) = (x.natAbs : Int) := fun x => by split <;> omega
  have e1 : sSet 2 (cBi bAbs (cAd (cV 0) (cA0))) [.val (.int a), .val (.int b), .un, .un, .un] = .nx [.val (.int a), .val (.int b), .val (.int a.natAbs), .un, .un] := by
    simp only [sIf, cTr, cOp, two, ofOp, cV, cBi, cAd, cA0, cAs, cK, sRet, sRetO, cIx, cIxO, withO, sNx, sSet, sSetO, sDrop, cApp, cCall, callR, svs, slots, putA, setO, cMake, cMeth, cFld, cSfld, sFld0, cTup, cLst, cAnd, cOr, cNot, asB, cAndT, cOrT, cNotT, cIf, cIsi, cNeg, cNegM, cProp, cLenO, sRetN, sBk, sCt, sAsg, gT, gC, gN, g0, iD, iR1, iR2, avI, R.bind, R.bindT, R.bindA, R.bindS, R.bindR, RT.bind, RT.bindT, RT.bindS, RA.bind, RA.bindI, avD, bLen, bInt, bAbs, bGcd, bTup, bLst, truthD, kd, fz, ofR, canSet, isOwn, add_ii, sub_ii, lt_ii, le_ii, gt_ii, ge_ii, eq_ii, ne_ii, eqM_i, own_i, own_oo, eqX_i, List.lookup, Option.map, Option.bind, List.map_nil, List.map_cons, List.append_nil, List.nil_append, List.cons_append, List.getElem?_cons_zero, List.getElem?_cons_succ, List.set, List.nodup_nil, List.length_cons, List.length_nil, List.length_map, if_true, if_false, Bool.false_eq_true, reduceIte, Bool.not_true, Bool.not_false, Bool.and_true, Bool.and_false, Bool.true_and, Bool.false_and, Nat.reduceAdd, Nat.zero_le, Nat.reduceBEq, beq_self_eq_true, decide_true, decide_false, ab]
  have e2 : sSet 3 (cBi bAbs (cAd (cV 1) (cA0))) [.val (.int a), .val (.int b), .val (.int a.natAbs), .un, .un] = .nx [.val (.int a), .val (.int b), .val (.int a.natAbs), .val (.int b.natAbs), .un] := by
    simp only [sIf, cTr, cOp, two, ofOp, cV, cBi, cAd, cA0, cAs, cK, sRet, sRetO, cIx, cIxO, withO, sNx, sSet, sSetO, sDrop, cApp, cCall, callR, svs, slots, putA, setO, cMake, cMeth, cFld, cSfld, sFld0, cTup, cLst, cAnd, cOr, cNot, asB, cAndT, cOrT, cNotT, cIf, cIsi, cNeg, cNegM, cProp, cLenO, sRetN, sBk, sCt, sAsg, gT, gC, gN, g0, iD, iR1, iR2, avI, R.bind, R.bindT, R.bindA, R.bindS, R.bindR, RT.bind, RT.bindT, RT.bindS, RA.bind, RA.bindI, avD, bLen, bInt, bAbs, bGcd, bTup, bLst, truthD, kd, fz, ofR, canSet, isOwn, add_ii, sub_ii, lt_ii, le_ii, gt_ii, ge_ii, eq_ii, ne_ii, eqM_i, own_i, own_oo, eqX_i, List.lookup, Option.map, Option.bind, List.map_nil, List.map_cons, List.append_nil, List.nil_append, List.cons_append, List.getElem?_cons_zero, List.getElem?_cons_succ, List.set, List.nodup_nil, List.length_cons, List.length_nil, List.length_map, if_true, if_false, Bool.false_eq_true, reduceIte, Bool.not_true, Bool.not_false, Bool.and_true, Bool.and_false, Bool.true_and, Bool.false_and, Nat.reduceAdd, Nat.zero_le, Nat.reduceBEq, beq_self_eq_true, decide_true, decide_false, ab]
  obtain ⟨e', h1, h2⟩ := whL_run (c := cTr (cOp (pEq true) (cV 3) (cK (.int 0)))) (t := sSeq (sSet 4 (cOp pModI (cBi bInt (cAd (cV 2) (cA0))) (cV 3))) (
sSeq (sSet 2 (cV 3)) (
sSet 3 (cV 4))))
    (fun e => ∃ (p q : Nat) (x : SV), e = [.val (.int a), .val (.int b), .val (.int p), .val (.int q), x] ∧ Fr1 x ∧ Nat.gcd p q = Int.gcd a b)
    (fun e => ∃ (p : Nat) (x : SV), e = [.val (.int a), .val (.int b), .val (.int p), .val (.int 0), x] ∧ p = Int.gcd a b)
    (fun e => match e[3]? with | some (SV.val (D.int q)) => q.natAbs | _ => 0) (by
      rintro e ⟨p, q, x, rfl, hx, hg⟩
      by_cases hq : q = 0
      · subst hq
        refine .inl ⟨_, ?_, p, x, rfl, by rw [← hg, Nat.gcd_zero_right]⟩
        simp only [sIf, cTr, cOp, two, ofOp, cV, cBi, cAd, cA0, cAs, cK, sRet, sRetO, cIx, cIxO, withO, sNx, sSet, sSetO, sDrop, cApp, cCall, callR, svs, slots, putA, setO, cMake, cMeth, cFld, cSfld, sFld0, cTup, cLst, cAnd, cOr, cNot, asB, cAndT, cOrT, cNotT, cIf, cIsi, cNeg, cNegM, cProp, cLenO, sRetN, sBk, sCt, sAsg, gT, gC, gN, g0, iD, iR1, iR2, avI, R.bind, R.bindT, R.bindA, R.bindS, R.bindR, RT.bind, RT.bindT, RT.bindS, RA.bind, RA.bindI, avD, bLen, bInt, bAbs, bGcd, bTup, bLst, truthD, kd, fz, ofR, canSet, isOwn, add_ii, sub_ii, lt_ii, le_ii, gt_ii, ge_ii, eq_ii, ne_ii, eqM_i, own_i, own_oo, eqX_i, List.lookup, Option.map, Option.bind, List.map_nil, List.map_cons, List.append_nil, List.nil_append, List.cons_append, List.getElem?_cons_zero, List.getElem?_cons_succ, List.set, List.nodup_nil, List.length_cons, List.length_nil, List.length_map, if_true, if_false, Bool.false_eq_true, reduceIte, Bool.not_true, Bool.not_false, Bool.and_true, Bool.and_false, Bool.true_and, Bool.false_and, Nat.reduceAdd, Nat.zero_le, Nat.reduceBEq, beq_self_eq_true, decide_true, decide_false]
        rfl
      · have hq' : (0 : Int) < q := by omega
        have c1 : cTr (cOp (pEq true) (cV 3) (cK (.int 0))) [.val (.int a), .val (.int b), .val (.int p), .val (.int q), x] = .ok true [.val (.int a), .val (.int b), .val (.int p), .val (.int q), x] := by
          have : ((q : Int) == 0) = false := by simp; omega
          simp only [sIf, cTr, cOp, two, ofOp, cV, cBi, cAd, cA0, cAs, cK, sRet, sRetO, cIx, cIxO, withO, sNx, sSet, sSetO, sDrop, cApp, cCall, callR, svs, slots, putA, setO, cMake, cMeth, cFld, cSfld, sFld0, cTup, cLst, cAnd, cOr, cNot, asB, cAndT, cOrT, cNotT, cIf, cIsi, cNeg, cNegM, cProp, cLenO, sRetN, sBk, sCt, sAsg, gT, gC, gN, g0, iD, iR1, iR2, avI, R.bind, R.bindT, R.bindA, R.bindS, R.bindR, RT.bind, RT.bindT, RT.bindS, RA.bind, RA.bindI, avD, bLen, bInt, bAbs, bGcd, bTup, bLst, truthD, kd, fz, ofR, canSet, isOwn, add_ii, sub_ii, lt_ii, le_ii, gt_ii, ge_ii, eq_ii, ne_ii, eqM_i, own_i, own_oo, eqX_i, List.lookup, Option.map, Option.bind, List.map_nil, List.map_cons, List.append_nil, List.nil_append, List.cons_append, List.getElem?_cons_zero, List.getElem?_cons_succ, List.set, List.nodup_nil, List.length_cons, List.length_nil, List.length_map, if_true, if_false, Bool.false_eq_true, reduceIte, Bool.not_true, Bool.not_false, Bool.and_true, Bool.and_false, Bool.true_and, Bool.false_and, Nat.reduceAdd, Nat.zero_le, Nat.reduceBEq, beq_self_eq_true, decide_true, decide_false, this]
        have a1 : sSet 4 (cOp pModI (cBi bInt (cAd (cV 2) (cA0))) (cV 3)) [.val (.int a), .val (.int b), .val (.int p), .val (.int q), x] = .nx [.val (.int a), .val (.int b), .val (.int p), .val (.int q), .val (.int ((p % q : Nat) : Int))] := by
          unfold sSet
          rw [show cOp pModI (cBi bInt (cAd (cV 2) (cA0))) (cV 3) [.val (.int a), .val (.int b), .val (.int p), .val (.int q), x] = .ok (.d (.int ((p % q : Nat) : Int))) [.val (.int a), .val (.int b), .val (.int p), .val (.int q), x] by
            simp only [sIf, cTr, cOp, two, ofOp, cV, cBi, cAd, cA0, cAs, cK, sRet, sRetO, cIx, cIxO, withO, sNx, sSet, sSetO, sDrop, cApp, cCall, callR, svs, slots, putA, setO, cMake, cMeth, cFld, cSfld, sFld0, cTup, cLst, cAnd, cOr, cNot, asB, cAndT, cOrT, cNotT, cIf, cIsi, cNeg, cNegM, cProp, cLenO, sRetN, sBk, sCt, sAsg, gT, gC, gN, g0, iD, iR1, iR2, avI, R.bind, R.bindT, R.bindA, R.bindS, R.bindR, RT.bind, RT.bindT, RT.bindS, RA.bind, RA.bindI, avD, bLen, bInt, bAbs, bGcd, bTup, bLst, truthD, kd, fz, ofR, canSet, isOwn, add_ii, sub_ii, lt_ii, le_ii, gt_ii, ge_ii, eq_ii, ne_ii, eqM_i, own_i, own_oo, eqX_i, List.lookup, Option.map, Option.bind, List.map_nil, List.map_cons, List.append_nil, List.nil_append, List.cons_append, List.getElem?_cons_zero, List.getElem?_cons_succ, List.set, List.nodup_nil, List.length_cons, List.length_nil, List.length_map, if_true, if_false, Bool.false_eq_true, reduceIte, Bool.not_true, Bool.not_false, Bool.and_true, Bool.and_false, Bool.true_and, Bool.false_and, Nat.reduceAdd, Nat.zero_le, Nat.reduceBEq, beq_self_eq_true, decide_true, decide_false, mod_ii hq', Int.natCast_emod]]
          simp only [R.bindS]
          rw [if_pos (hx.can rfl)]
          rfl
        refine .inr ⟨_, [.val (.int a), .val (.int b), .val (.int q), .val (.int ((p % q : Nat) : Int)), .val (.int ((p % q : Nat) : Int))], c1, .inl ?_, ⟨q, p % q, _, rfl, .val, ?_⟩, ?_⟩
        · refine (seq_nx a1).trans ?_
          rfl
        · rw [← hg, Nat.gcd_comm p q, Nat.gcd_comm q (p % q)]; exact (Nat.gcd_rec q p).symm
        · show ((p % q : Nat) : Int).natAbs < (q : Int).natAbs
          simp only [Int.natAbs_natCast]
          exact Nat.mod_lt _ (Nat.pos_of_ne_zero hq)) (fuelE [.val (.int a), .val (.int b), .val (.int a.natAbs), .val (.int b.natAbs), .un]) [.val (.int a), .val (.int b), .val (.int a.natAbs), .val (.int b.natAbs), .un]
    ⟨a.natAbs, b.natAbs, .un, rfl, .un, rfl⟩ (by
      show (b.natAbs : Int).natAbs < fuelE _
      simp only [fuelE, List.map_cons, List.map_nil, sizV, sizD, List.sum_cons, List.sum_nil, Int.natAbs_natCast]
      omega)
  obtain ⟨p, x, rfl, hp⟩ := h2
  refine fnF_rt rfl s0 (e1 := [.val (.int a), .val (.int b), .val (.int p), .val (.int 0), x]) ?_ rfl
  unfold g_law_gcd
  rw [seq_nx e1, seq_nx e2, seq_nx (wh_at.trans h1)]
  simp only [sIf, cTr, cOp, two, ofOp, cV, cBi, cAd, cA0, cAs, cK, sRet, sRetO, cIx, cIxO, withO, sNx, sSet, sSetO, sDrop, cApp, cCall, callR, svs, slots, putA, setO, cMake, cMeth, cFld, cSfld, sFld0, cTup, cLst, cAnd, cOr, cNot, asB, cAndT, cOrT, cNotT, cIf, cIsi, cNeg, cNegM, cProp, cLenO, sRetN, sBk, sCt, sAsg, gT, gC, gN, g0, iD, iR1, iR2, avI, R.bind, R.bindT, R.bindA, R.bindS, R.bindR, RT.bind, RT.bindT, RT.bindS, RA.bind, RA.bindI, avD, bLen, bInt, bAbs, bGcd, bTup, bLst, truthD, kd, fz, ofR, canSet, isOwn, add_ii, sub_ii, lt_ii, le_ii, gt_ii, ge_ii, eq_ii, ne_ii, eqM_i, own_i, own_oo, eqX_i, List.lookup, Option.map, Option.bind, List.map_nil, List.map_cons, List.append_nil, List.nil_append, List.cons_append, List.getElem?_cons_zero, List.getElem?_cons_succ, List.set, List.nodup_nil, List.length_cons, List.length_nil, List.length_map, if_true, if_false, Bool.false_eq_true, reduceIte, Bool.not_true, Bool.not_false, Bool.and_true, Bool.and_false, Bool.true_and, Bool.false_and, Nat.reduceAdd, Nat.zero_le, Nat.reduceBEq, beq_self_eq_true, decide_true, decide_false, hp]
theorem law_rat {n d : Int} (h : d ≠ 0) : φ_law_rat [.val (.int n), .val (.int d)] = .ok (.d (.tup [.int (nrN n d), .int (nrD n d)])) [] := by
  have s0 : startE [.val (.int n), .val (.int d)] 3 = [.val (.int n), .val (.int d), .un] := rfl
  have e1 : sSet 2 (cCall φ_law_gcd [] (cAd (cV 0) (cAd (cV 1) (cA0)))) [.val (.int n), .val (.int d), .un] = .nx [.val (.int n), .val (.int d), .val (.int (Int.gcd n d))] := by
    simp only [sIf, cTr, cOp, two, ofOp, cV, cBi, cAd, cA0, cAs, cK, sRet, sRetO, cIx, cIxO, withO, sNx, sSet, sSetO, sDrop, cApp, cCall, callR, svs, slots, putA, setO, cMake, cMeth, cFld, cSfld, sFld0, cTup, cLst, cAnd, cOr, cNot, asB, cAndT, cOrT, cNotT, cIf, cIsi, cNeg, cNegM, cProp, cLenO, sRetN, sBk, sCt, sAsg, gT, gC, gN, g0, iD, iR1, iR2, avI, R.bind, R.bindT, R.bindA, R.bindS, R.bindR, RT.bind, RT.bindT, RT.bindS, RA.bind, RA.bindI, avD, bLen, bInt, bAbs, bGcd, bTup, bLst, truthD, kd, fz, ofR, canSet, isOwn, add_ii, sub_ii, lt_ii, le_ii, gt_ii, ge_ii, eq_ii, ne_ii, eqM_i, own_i, own_oo, eqX_i, List.lookup, Option.map, Option.bind, List.map_nil, List.map_cons, List.append_nil, List.nil_append, List.cons_append, List.getElem?_cons_zero, List.getElem?_cons_succ, List.set, List.nodup_nil, List.length_cons, List.length_nil, List.length_map, if_true, if_false, Bool.false_eq_true, reduceIte, Bool.not_true, Bool.not_false, Bool.and_true, Bool.and_false, Bool.true_and, Bool.false_and, Nat.reduceAdd, Nat.zero_le, Nat.reduceBEq, beq_self_eq_true, decide_true, decide_false, law_gcd]
  have e2 : sIf (cTr (cOp (pLt) (cV 1) (cK (.int 0)))) (sSet 2 (cNeg (cV 2))) (sNx) [.val (.int n), .val (.int d), .val (.int (Int.gcd n d))] = .nx [.val (.int n), .val (.int d), .val (.int (sgc n d))] := by
    by_cases hd : d < 0
    · have q : ¬ 0 < d := by omega
      have c1 : cTr (cOp (pLt) (cV 1) (cK (.int 0))) [.val (.int n), .val (.int d), .val (.int (Int.gcd n d))] = .ok true [.val (.int n), .val (.int d), .val (.int (Int.gcd n d))] := by
        simp only [sIf, cTr, cOp, two, ofOp, cV, cBi, cAd, cA0, cAs, cK, sRet, sRetO, cIx, cIxO, withO, sNx, sSet, sSetO, sDrop, cApp, cCall, callR, svs, slots, putA, setO, cMake, cMeth, cFld, cSfld, sFld0, cTup, cLst, cAnd, cOr, cNot, asB, cAndT, cOrT, cNotT, cIf, cIsi, cNeg, cNegM, cProp, cLenO, sRetN, sBk, sCt, sAsg, gT, gC, gN, g0, iD, iR1, iR2, avI, R.bind, R.bindT, R.bindA, R.bindS, R.bindR, RT.bind, RT.bindT, RT.bindS, RA.bind, RA.bindI, avD, bLen, bInt, bAbs, bGcd, bTup, bLst, truthD, kd, fz, ofR, canSet, isOwn, add_ii, sub_ii, lt_ii, le_ii, gt_ii, ge_ii, eq_ii, ne_ii, eqM_i, own_i, own_oo, eqX_i, List.lookup, Option.map, Option.bind, List.map_nil, List.map_cons, List.append_nil, List.nil_append, List.cons_append, List.getElem?_cons_zero, List.getElem?_cons_succ, List.set, List.nodup_nil, List.length_cons, List.length_nil, List.length_map, if_true, if_false, Bool.false_eq_true, reduceIte, Bool.not_true, Bool.not_false, Bool.and_true, Bool.and_false, Bool.true_and, Bool.false_and, Nat.reduceAdd, Nat.zero_le, Nat.reduceBEq, beq_self_eq_true, decide_true, decide_false, hd]
      rw [if_t c1]
      simp only [sIf, cTr, cOp, two, ofOp, cV, cBi, cAd, cA0, cAs, cK, sRet, sRetO, cIx, cIxO, withO, sNx, sSet, sSetO, sDrop, cApp, cCall, callR, svs, slots, putA, setO, cMake, cMeth, cFld, cSfld, sFld0, cTup, cLst, cAnd, cOr, cNot, asB, cAndT, cOrT, cNotT, cIf, cIsi, cNeg, cNegM, cProp, cLenO, sRetN, sBk, sCt, sAsg, gT, gC, gN, g0, iD, iR1, iR2, avI, R.bind, R.bindT, R.bindA, R.bindS, R.bindR, RT.bind, RT.bindT, RT.bindS, RA.bind, RA.bindI, avD, bLen, bInt, bAbs, bGcd, bTup, bLst, truthD, kd, fz, ofR, canSet, isOwn, add_ii, sub_ii, lt_ii, le_ii, gt_ii, ge_ii, eq_ii, ne_ii, eqM_i, own_i, own_oo, eqX_i, List.lookup, Option.map, Option.bind, List.map_nil, List.map_cons, List.append_nil, List.nil_append, List.cons_append, List.getElem?_cons_zero, List.getElem?_cons_succ, List.set, List.nodup_nil, List.length_cons, List.length_nil, List.length_map, if_true, if_false, Bool.false_eq_true, reduceIte, Bool.not_true, Bool.not_false, Bool.and_true, Bool.and_false, Bool.true_and, Bool.false_and, Nat.reduceAdd, Nat.zero_le, Nat.reduceBEq, beq_self_eq_true, decide_true, decide_false, sgc, if_neg q]
    · have q : 0 < d := by omega
      have c1 : cTr (cOp (pLt) (cV 1) (cK (.int 0))) [.val (.int n), .val (.int d), .val (.int (Int.gcd n d))] = .ok false [.val (.int n), .val (.int d), .val (.int (Int.gcd n d))] := by
        simp only [sIf, cTr, cOp, two, ofOp, cV, cBi, cAd, cA0, cAs, cK, sRet, sRetO, cIx, cIxO, withO, sNx, sSet, sSetO, sDrop, cApp, cCall, callR, svs, slots, putA, setO, cMake, cMeth, cFld, cSfld, sFld0, cTup, cLst, cAnd, cOr, cNot, asB, cAndT, cOrT, cNotT, cIf, cIsi, cNeg, cNegM, cProp, cLenO, sRetN, sBk, sCt, sAsg, gT, gC, gN, g0, iD, iR1, iR2, avI, R.bind, R.bindT, R.bindA, R.bindS, R.bindR, RT.bind, RT.bindT, RT.bindS, RA.bind, RA.bindI, avD, bLen, bInt, bAbs, bGcd, bTup, bLst, truthD, kd, fz, ofR, canSet, isOwn, add_ii, sub_ii, lt_ii, le_ii, gt_ii, ge_ii, eq_ii, ne_ii, eqM_i, own_i, own_oo, eqX_i, List.lookup, Option.map, Option.bind, List.map_nil, List.map_cons, List.append_nil, List.nil_append, List.cons_append, List.getElem?_cons_zero, List.getElem?_cons_succ, List.set, List.nodup_nil, List.length_cons, List.length_nil, List.length_map, if_true, if_false, Bool.false_eq_true, reduceIte, Bool.not_true, Bool.not_false, Bool.and_true, Bool.and_false, Bool.true_and, Bool.false_and, Nat.reduceAdd, Nat.zero_le, Nat.reduceBEq, beq_self_eq_true, decide_true, decide_false, hd]
      rw [if_f c1]
      simp only [sIf, cTr, cOp, two, ofOp, cV, cBi, cAd, cA0, cAs, cK, sRet, sRetO, cIx, cIxO, withO, sNx, sSet, sSetO, sDrop, cApp, cCall, callR, svs, slots, putA, setO, cMake, cMeth, cFld, cSfld, sFld0, cTup, cLst, cAnd, cOr, cNot, asB, cAndT, cOrT, cNotT, cIf, cIsi, cNeg, cNegM, cProp, cLenO, sRetN, sBk, sCt, sAsg, gT, gC, gN, g0, iD, iR1, iR2, avI, R.bind, R.bindT, R.bindA, R.bindS, R.bindR, RT.bind, RT.bindT, RT.bindS, RA.bind, RA.bindI, avD, bLen, bInt, bAbs, bGcd, bTup, bLst, truthD, kd, fz, ofR, canSet, isOwn, add_ii, sub_ii, lt_ii, le_ii, gt_ii, ge_ii, eq_ii, ne_ii, eqM_i, own_i, own_oo, eqX_i, List.lookup, Option.map, Option.bind, List.map_nil, List.map_cons, List.append_nil, List.nil_append, List.cons_append, List.getElem?_cons_zero, List.getElem?_cons_succ, List.set, List.nodup_nil, List.length_cons, List.length_nil, List.length_map, if_true, if_false, Bool.false_eq_true, reduceIte, Bool.not_true, Bool.not_false, Bool.and_true, Bool.and_false, Bool.true_and, Bool.false_and, Nat.reduceAdd, Nat.zero_le, Nat.reduceBEq, beq_self_eq_true, decide_true, decide_false, sgc, if_pos q]
  refine fnF_rt rfl s0 (e1 := [.val (.int n), .val (.int d), .val (.int (sgc n d))]) ?_ rfl
  unfold g_law_rat
  rw [seq_nx e1, seq_nx e2]
  have hs := sgc_ne (n := n) h
  have l2 : ([D.int (nrN n d), .int (nrD n d)] : List D).length ≤ 16777216 := by show 2 ≤ 16777216; omega
  simp only [sIf, cTr, cOp, two, ofOp, cV, cBi, cAd, cA0, cAs, cK, sRet, sRetO, cIx, cIxO, withO, sNx, sSet, sSetO, sDrop, cApp, cCall, callR, svs, slots, putA, setO, cMake, cMeth, cFld, cSfld, sFld0, cTup, cLst, cAnd, cOr, cNot, asB, cAndT, cOrT, cNotT, cIf, cIsi, cNeg, cNegM, cProp, cLenO, sRetN, sBk, sCt, sAsg, gT, gC, gN, g0, iD, iR1, iR2, avI, R.bind, R.bindT, R.bindA, R.bindS, R.bindR, RT.bind, RT.bindT, RT.bindS, RA.bind, RA.bindI, avD, bLen, bInt, bAbs, bGcd, bTup, bLst, truthD, kd, fz, ofR, canSet, isOwn, add_ii, sub_ii, lt_ii, le_ii, gt_ii, ge_ii, eq_ii, ne_ii, eqM_i, own_i, own_oo, eqX_i, List.lookup, Option.map, Option.bind, List.map_nil, List.map_cons, List.append_nil, List.nil_append, List.cons_append, List.getElem?_cons_zero, List.getElem?_cons_succ, List.set, List.nodup_nil, List.length_cons, List.length_nil, List.length_map, if_true, if_false, Bool.false_eq_true, reduceIte, Bool.not_true, Bool.not_false, Bool.and_true, Bool.and_false, Bool.true_and, Bool.false_and, Nat.reduceAdd, Nat.zero_le, Nat.reduceBEq, beq_self_eq_true, decide_true, decide_false, div_ii hs]
  rfl
end L2.S.W

set_option Elab.async false
set_option linter.all false
set_option maxRecDepth 100000
set_option maxHeartbeats 8000000
namespace L2.S.W
open PySem PySem.Spec PyProof.Rows L2 L2.S
/-! ### sizes -/
def Bd (k : Nat) (x : Int) : Prop := x.natAbs < 2 ^ k
theorem Bd.mono {a b : Nat} {x : Int} (h : Bd a x) (l : a ≤ b) : Bd b x := natAbs_le_pow h l
theorem Bd.mul {a b : Nat} {x y : Int} (h : Bd a x) (k : Bd b y) : Bd (a + b) (x * y) := natAbs_mul_lt h k
theorem Bd.add {a : Nat} {x y : Int} (h : Bd a x) (k : Bd a y) : Bd (a + 1) (x + y) := natAbs_add_lt h k
theorem Bd.sub {a : Nat} {x y : Int} (h : Bd a x) (k : Bd a y) : Bd (a + 1) (x - y) := natAbs_sub_lt h k
theorem Bd.neg {a : Nat} {x : Int} (h : Bd a x) : Bd a (-x) := by unfold Bd at h ⊢; rw [Int.natAbs_neg]; exact h
theorem Bd.ok {a b : Nat} {x y : Int} (h : Bd a x) (k : Bd b y) (l : a + b ≤ 99999998) : mulOk x y = true := mulOk_lt (h.mono (Nat.le_succ a)) (k.mono (Nat.le_succ b)) (by omega) (Nat.succ_pos a) (Nat.succ_pos b)
theorem Bd.of_dvd {k : Nat} {x y : Int} (h : Bd k x) (d : y ∣ x) (hx : x ≠ 0) : Bd k y := Nat.lt_of_le_of_lt (Nat.le_of_dvd (by omega) (Int.natAbs_dvd_natAbs.mpr d)) h
theorem Bd.nrN {k : Nat} {n d : Int} (h : Bd k n) (hd : d ≠ 0) : Bd k (nrN n d) := by
  have e := nrN_mul n d
  have hs := sgc_ne (n := n) hd
  have : (W.nrN n d).natAbs ≤ n.natAbs := by
    have e2 := congrArg Int.natAbs e
    rw [Int.natAbs_mul] at e2
    rw [← e2]
    exact Nat.le_mul_of_pos_right _ (by omega)
  exact Nat.lt_of_le_of_lt this h
theorem Bd.nrD {k : Nat} {n d : Int} (h : Bd k d) (hd : d ≠ 0) : Bd k (nrD n d) := by
  have e := nrD_mul n d
  have hs := sgc_ne (n := n) hd
  have : (W.nrD n d).natAbs ≤ d.natAbs := by
    have e2 := congrArg Int.natAbs e
    rw [Int.natAbs_mul] at e2
    rw [← e2]
    exact Nat.le_mul_of_pos_right _ (by omega)
  exact Nat.lt_of_le_of_lt this h
theorem Bd.pow {k : Nat} {x : Int} (h : Bd k x) : ∀ j : Nat, Bd (k * j + 1) (x ^ j)
  | 0 => by rw [Int.pow_zero, Nat.mul_zero, Nat.zero_add]; unfold Bd; decide
  | j + 1 => by
    rw [Int.pow_succ, show k * (j + 1) + 1 = (k * j + 1) + k by rw [Nat.mul_succ]; omega]
    exact (Bd.pow h j).mul h
theorem Bd.one : Bd 1 1 := by unfold Bd; decide
theorem Bd.zero : Bd 1 0 := by unfold Bd; decide
/-! ### Ratio -/
abbrev ob (n d : Int) : D := .obj 0 [.int n, .int d]
theorem init_0 (n : Int) : φ_Ratio_init [.own true (.s 0 []), .val (.int n), .val (.int 0)] = .ex ⟨1, []⟩ [(0, .s 0 [])] := by
  refine fnF_ex (e := [.own true (.s 0 []), .val (.int n), .val (.int 0), .un]) (e1 := [.own true (.s 0 []), .val (.int n), .val (.int 0), .un]) rfl rfl ?_ rfl
  unfold g_Ratio_init
  refine seq_ex ?_
  have c1 : cTr (two (pEqM false ((0, φ_Ratio_eq, [0, 1, 2, 3, 4, 5, 10]) :: []) (orP pEqX (pEq false))) (cV 2) (cK (.int 0))) [.own true (.s 0 []), .val (.int n), .val (.int 0), .un] = .ok true [.own true (.s 0 []), .val (.int n), .val (.int 0), .un] := by
    simp only [sIf, cTr, cOp, two, ofOp, cV, cBi, cAd, cA0, cAs, cK, sRet, sRetO, cIx, cIxO, withO, sNx, sSet, sSetO, sDrop, cApp, cCall, callR, svs, slots, putA, setO, cMake, cMeth, cFld, cSfld, sFld0, cTup, cLst, cAnd, cOr, cNot, asB, cAndT, cOrT, cNotT, cIf, cIsi, cNeg, cNegM, cProp, cLenO, sRetN, sBk, sCt, sAsg, gT, gC, gN, g0, iD, iR1, iR2, avI, R.bind, R.bindT, R.bindA, R.bindS, R.bindR, RT.bind, RT.bindT, RT.bindS, RA.bind, RA.bindI, avD, bLen, bInt, bAbs, bGcd, bTup, bLst, truthD, kd, fz, ofR, canSet, isOwn, add_ii, sub_ii, lt_ii, le_ii, gt_ii, ge_ii, eq_ii, ne_ii, eqM_i, own_i, own_oo, eqX_i, List.lookup, Option.map, Option.bind, List.map_nil, List.map_cons, List.append_nil, List.nil_append, List.cons_append, List.getElem?_cons_zero, List.getElem?_cons_succ, List.set, List.nodup_nil, List.length_cons, List.length_nil, List.length_map, if_true, if_false, Bool.false_eq_true, reduceIte, Bool.not_true, Bool.not_false, Bool.and_true, Bool.and_false, Bool.true_and, Bool.false_and, Nat.reduceAdd, Nat.zero_le, Nat.reduceBEq, beq_self_eq_true, decide_true, decide_false, orP_n (eqX_i _ _)]
  rw [if_t c1]
  rfl
theorem init_1 {n d : Int} (h : d ≠ 0) : φ_Ratio_init [.own true (.s 0 []), .val (.int n), .val (.int d)] = .ok (.d .non) [(0, .s 0 [.int (nrN n d), .int (nrD n d)])] := by
  have hs := sgc_ne (n := n) h
  refine fnF_nx (e := [.own true (.s 0 []), .val (.int n), .val (.int d), .un]) (e1 := [.own true (.s 0 [.int (nrN n d), .int (nrD n d)]), .val (.int n), .val (.int d), .val (.int (sgc n d))]) rfl rfl ?_ rfl
  unfold g_Ratio_init
  have hf : (d == 0) = false := by simpa using h
  have c1 : cTr (two (pEqM false ((0, φ_Ratio_eq, [0, 1, 2, 3, 4, 5, 10]) :: []) (orP pEqX (pEq false))) (cV 2) (cK (.int 0))) [.own true (.s 0 []), .val (.int n), .val (.int d), .un] = .ok false [.own true (.s 0 []), .val (.int n), .val (.int d), .un] := by
    simp only [sIf, cTr, cOp, two, ofOp, cV, cBi, cAd, cA0, cAs, cK, sRet, sRetO, cIx, cIxO, withO, sNx, sSet, sSetO, sDrop, cApp, cCall, callR, svs, slots, putA, setO, cMake, cMeth, cFld, cSfld, sFld0, cTup, cLst, cAnd, cOr, cNot, asB, cAndT, cOrT, cNotT, cIf, cIsi, cNeg, cNegM, cProp, cLenO, sRetN, sBk, sCt, sAsg, gT, gC, gN, g0, iD, iR1, iR2, avI, R.bind, R.bindT, R.bindA, R.bindS, R.bindR, RT.bind, RT.bindT, RT.bindS, RA.bind, RA.bindI, avD, bLen, bInt, bAbs, bGcd, bTup, bLst, truthD, kd, fz, ofR, canSet, isOwn, add_ii, sub_ii, lt_ii, le_ii, gt_ii, ge_ii, eq_ii, ne_ii, eqM_i, own_i, own_oo, eqX_i, List.lookup, Option.map, Option.bind, List.map_nil, List.map_cons, List.append_nil, List.nil_append, List.cons_append, List.getElem?_cons_zero, List.getElem?_cons_succ, List.set, List.nodup_nil, List.length_cons, List.length_nil, List.length_map, if_true, if_false, Bool.false_eq_true, reduceIte, Bool.not_true, Bool.not_false, Bool.and_true, Bool.and_false, Bool.true_and, Bool.false_and, Nat.reduceAdd, Nat.zero_le, Nat.reduceBEq, beq_self_eq_true, decide_true, decide_false, orP_n (eqX_i _ _), hf]
  have e1 : sIf (cTr (two (pEqM false ((0, φ_Ratio_eq, [0, 1, 2, 3, 4, 5, 10]) :: []) (orP pEqX (pEq false))) (cV 2) (cK (.int 0)))) (sRaise 1) sNx [.own true (.s 0 []), .val (.int n), .val (.int d), .un] = .nx [.own true (.s 0 []), .val (.int n), .val (.int d), .un] := (if_f c1).trans rfl
  have e2 : sSet 3 (cIf (cTr (cOp (pGt) (cV 2) (cK (.int 0)))) (cBi bGcd (cAd (cV 1) (cAd (cV 2) (cA0)))) (cNeg (cBi bGcd (cAd (cV 1) (cAd (cV 2) (cA0)))))) [.own true (.s 0 []), .val (.int n), .val (.int d), .un] = .nx [.own true (.s 0 []), .val (.int n), .val (.int d), .val (.int (sgc n d))] := by
    by_cases hd : 0 < d
    · simp only [sIf, cTr, cOp, two, ofOp, cV, cBi, cAd, cA0, cAs, cK, sRet, sRetO, cIx, cIxO, withO, sNx, sSet, sSetO, sDrop, cApp, cCall, callR, svs, slots, putA, setO, cMake, cMeth, cFld, cSfld, sFld0, cTup, cLst, cAnd, cOr, cNot, asB, cAndT, cOrT, cNotT, cIf, cIsi, cNeg, cNegM, cProp, cLenO, sRetN, sBk, sCt, sAsg, gT, gC, gN, g0, iD, iR1, iR2, avI, R.bind, R.bindT, R.bindA, R.bindS, R.bindR, RT.bind, RT.bindT, RT.bindS, RA.bind, RA.bindI, avD, bLen, bInt, bAbs, bGcd, bTup, bLst, truthD, kd, fz, ofR, canSet, isOwn, add_ii, sub_ii, lt_ii, le_ii, gt_ii, ge_ii, eq_ii, ne_ii, eqM_i, own_i, own_oo, eqX_i, List.lookup, Option.map, Option.bind, List.map_nil, List.map_cons, List.append_nil, List.nil_append, List.cons_append, List.getElem?_cons_zero, List.getElem?_cons_succ, List.set, List.nodup_nil, List.length_cons, List.length_nil, List.length_map, if_true, if_false, Bool.false_eq_true, reduceIte, Bool.not_true, Bool.not_false, Bool.and_true, Bool.and_false, Bool.true_and, Bool.false_and, Nat.reduceAdd, Nat.zero_le, Nat.reduceBEq, beq_self_eq_true, decide_true, decide_false, hd, sgc]; rfl
    · simp only [sIf, cTr, cOp, two, ofOp, cV, cBi, cAd, cA0, cAs, cK, sRet, sRetO, cIx, cIxO, withO, sNx, sSet, sSetO, sDrop, cApp, cCall, callR, svs, slots, putA, setO, cMake, cMeth, cFld, cSfld, sFld0, cTup, cLst, cAnd, cOr, cNot, asB, cAndT, cOrT, cNotT, cIf, cIsi, cNeg, cNegM, cProp, cLenO, sRetN, sBk, sCt, sAsg, gT, gC, gN, g0, iD, iR1, iR2, avI, R.bind, R.bindT, R.bindA, R.bindS, R.bindR, RT.bind, RT.bindT, RT.bindS, RA.bind, RA.bindI, avD, bLen, bInt, bAbs, bGcd, bTup, bLst, truthD, kd, fz, ofR, canSet, isOwn, add_ii, sub_ii, lt_ii, le_ii, gt_ii, ge_ii, eq_ii, ne_ii, eqM_i, own_i, own_oo, eqX_i, List.lookup, Option.map, Option.bind, List.map_nil, List.map_cons, List.append_nil, List.nil_append, List.cons_append, List.getElem?_cons_zero, List.getElem?_cons_succ, List.set, List.nodup_nil, List.length_cons, List.length_nil, List.length_map, if_true, if_false, Bool.false_eq_true, reduceIte, Bool.not_true, Bool.not_false, Bool.and_true, Bool.and_false, Bool.true_and, Bool.false_and, Nat.reduceAdd, Nat.zero_le, Nat.reduceBEq, beq_self_eq_true, decide_true, decide_false, hd, sgc]; rfl
  rw [seq_nx e1, seq_nx e2]
  have e3 : sFld0 0 0 0 (cOp pDivG (cV 1) (cV 3)) [.own true (.s 0 []), .val (.int n), .val (.int d), .val (.int (sgc n d))] = .nx [.own true (.s 0 [.int (nrN n d)]), .val (.int n), .val (.int d), .val (.int (sgc n d))] := by
    simp only [sIf, cTr, cOp, two, ofOp, cV, cBi, cAd, cA0, cAs, cK, sRet, sRetO, cIx, cIxO, withO, sNx, sSet, sSetO, sDrop, cApp, cCall, callR, svs, slots, putA, setO, cMake, cMeth, cFld, cSfld, sFld0, cTup, cLst, cAnd, cOr, cNot, asB, cAndT, cOrT, cNotT, cIf, cIsi, cNeg, cNegM, cProp, cLenO, sRetN, sBk, sCt, sAsg, gT, gC, gN, g0, iD, iR1, iR2, avI, R.bind, R.bindT, R.bindA, R.bindS, R.bindR, RT.bind, RT.bindT, RT.bindS, RA.bind, RA.bindI, avD, bLen, bInt, bAbs, bGcd, bTup, bLst, truthD, kd, fz, ofR, canSet, isOwn, add_ii, sub_ii, lt_ii, le_ii, gt_ii, ge_ii, eq_ii, ne_ii, eqM_i, own_i, own_oo, eqX_i, List.lookup, Option.map, Option.bind, List.map_nil, List.map_cons, List.append_nil, List.nil_append, List.cons_append, List.getElem?_cons_zero, List.getElem?_cons_succ, List.set, List.nodup_nil, List.length_cons, List.length_nil, List.length_map, if_true, if_false, Bool.false_eq_true, reduceIte, Bool.not_true, Bool.not_false, Bool.and_true, Bool.and_false, Bool.true_and, Bool.false_and, Nat.reduceAdd, Nat.zero_le, Nat.reduceBEq, beq_self_eq_true, decide_true, decide_false, div_ii hs]
    rfl
  rw [seq_nx e3]
  simp only [sIf, cTr, cOp, two, ofOp, cV, cBi, cAd, cA0, cAs, cK, sRet, sRetO, cIx, cIxO, withO, sNx, sSet, sSetO, sDrop, cApp, cCall, callR, svs, slots, putA, setO, cMake, cMeth, cFld, cSfld, sFld0, cTup, cLst, cAnd, cOr, cNot, asB, cAndT, cOrT, cNotT, cIf, cIsi, cNeg, cNegM, cProp, cLenO, sRetN, sBk, sCt, sAsg, gT, gC, gN, g0, iD, iR1, iR2, avI, R.bind, R.bindT, R.bindA, R.bindS, R.bindR, RT.bind, RT.bindT, RT.bindS, RA.bind, RA.bindI, avD, bLen, bInt, bAbs, bGcd, bTup, bLst, truthD, kd, fz, ofR, canSet, isOwn, add_ii, sub_ii, lt_ii, le_ii, gt_ii, ge_ii, eq_ii, ne_ii, eqM_i, own_i, own_oo, eqX_i, List.lookup, Option.map, Option.bind, List.map_nil, List.map_cons, List.append_nil, List.nil_append, List.cons_append, List.getElem?_cons_zero, List.getElem?_cons_succ, List.set, List.nodup_nil, List.length_cons, List.length_nil, List.length_map, if_true, if_false, Bool.false_eq_true, reduceIte, Bool.not_true, Bool.not_false, Bool.and_true, Bool.and_false, Bool.true_and, Bool.false_and, Nat.reduceAdd, Nat.zero_le, Nat.reduceBEq, beq_self_eq_true, decide_true, decide_false, div_ii hs]
  rfl
theorem mk_0 (n : Int) (e : Env') : makeR 0 2 φ_Ratio_init [] [.d (.int n), .d (.int 0)] e = .ex ⟨1, []⟩ e := by
  unfold makeR
  simp only [sIf, cTr, cOp, two, ofOp, cV, cBi, cAd, cA0, cAs, cK, sRet, sRetO, cIx, cIxO, withO, sNx, sSet, sSetO, sDrop, cApp, cCall, callR, svs, slots, putA, setO, cMake, cMeth, cFld, cSfld, sFld0, cTup, cLst, cAnd, cOr, cNot, asB, cAndT, cOrT, cNotT, cIf, cIsi, cNeg, cNegM, cProp, cLenO, sRetN, sBk, sCt, sAsg, gT, gC, gN, g0, iD, iR1, iR2, avI, R.bind, R.bindT, R.bindA, R.bindS, R.bindR, RT.bind, RT.bindT, RT.bindS, RA.bind, RA.bindI, avD, bLen, bInt, bAbs, bGcd, bTup, bLst, truthD, kd, fz, ofR, canSet, isOwn, add_ii, sub_ii, lt_ii, le_ii, gt_ii, ge_ii, eq_ii, ne_ii, eqM_i, own_i, own_oo, eqX_i, List.lookup, Option.map, Option.bind, List.map_nil, List.map_cons, List.append_nil, List.nil_append, List.cons_append, List.getElem?_cons_zero, List.getElem?_cons_succ, List.set, List.nodup_nil, List.length_cons, List.length_nil, List.length_map, if_true, if_false, Bool.false_eq_true, reduceIte, Bool.not_true, Bool.not_false, Bool.and_true, Bool.and_false, Bool.true_and, Bool.false_and, Nat.reduceAdd, Nat.zero_le, Nat.reduceBEq, beq_self_eq_true, decide_true, decide_false, init_0]
theorem mk_1 {n d : Int} (h : d ≠ 0) (e : Env') : makeR 0 2 φ_Ratio_init [] [.d (.int n), .d (.int d)] e = .ok (.d (ob (nrN n d) (nrD n d))) e := by
  unfold makeR
  simp only [sIf, cTr, cOp, two, ofOp, cV, cBi, cAd, cA0, cAs, cK, sRet, sRetO, cIx, cIxO, withO, sNx, sSet, sSetO, sDrop, cApp, cCall, callR, svs, slots, putA, setO, cMake, cMeth, cFld, cSfld, sFld0, cTup, cLst, cAnd, cOr, cNot, asB, cAndT, cOrT, cNotT, cIf, cIsi, cNeg, cNegM, cProp, cLenO, sRetN, sBk, sCt, sAsg, gT, gC, gN, g0, iD, iR1, iR2, avI, R.bind, R.bindT, R.bindA, R.bindS, R.bindR, RT.bind, RT.bindT, RT.bindS, RA.bind, RA.bindI, avD, bLen, bInt, bAbs, bGcd, bTup, bLst, truthD, kd, fz, ofR, canSet, isOwn, add_ii, sub_ii, lt_ii, le_ii, gt_ii, ge_ii, eq_ii, ne_ii, eqM_i, own_i, own_oo, eqX_i, List.lookup, Option.map, Option.bind, List.map_nil, List.map_cons, List.append_nil, List.nil_append, List.cons_append, List.getElem?_cons_zero, List.getElem?_cons_succ, List.set, List.nodup_nil, List.length_cons, List.length_nil, List.length_map, if_true, if_false, Bool.false_eq_true, reduceIte, Bool.not_true, Bool.not_false, Bool.and_true, Bool.and_false, Bool.true_and, Bool.false_and, Nat.reduceAdd, Nat.zero_le, Nat.reduceBEq, beq_self_eq_true, decide_true, decide_false, init_1 h]
  rfl
theorem mk_2 (n : Int) (e : Env') : makeR 0 2 φ_Ratio_init [.int 1] [.d (.int n)] e = .ok (.d (ob (nrN n 1) (nrD n 1))) e := by
  unfold makeR
  simp only [sIf, cTr, cOp, two, ofOp, cV, cBi, cAd, cA0, cAs, cK, sRet, sRetO, cIx, cIxO, withO, sNx, sSet, sSetO, sDrop, cApp, cCall, callR, svs, slots, putA, setO, cMake, cMeth, cFld, cSfld, sFld0, cTup, cLst, cAnd, cOr, cNot, asB, cAndT, cOrT, cNotT, cIf, cIsi, cNeg, cNegM, cProp, cLenO, sRetN, sBk, sCt, sAsg, gT, gC, gN, g0, iD, iR1, iR2, avI, R.bind, R.bindT, R.bindA, R.bindS, R.bindR, RT.bind, RT.bindT, RT.bindS, RA.bind, RA.bindI, avD, bLen, bInt, bAbs, bGcd, bTup, bLst, truthD, kd, fz, ofR, canSet, isOwn, add_ii, sub_ii, lt_ii, le_ii, gt_ii, ge_ii, eq_ii, ne_ii, eqM_i, own_i, own_oo, eqX_i, List.lookup, Option.map, Option.bind, List.map_nil, List.map_cons, List.append_nil, List.nil_append, List.cons_append, List.getElem?_cons_zero, List.getElem?_cons_succ, List.set, List.nodup_nil, List.length_cons, List.length_nil, List.length_map, if_true, if_false, Bool.false_eq_true, reduceIte, Bool.not_true, Bool.not_false, Bool.and_true, Bool.and_false, Bool.true_and, Bool.false_and, Nat.reduceAdd, Nat.zero_le, Nat.reduceBEq, beq_self_eq_true, decide_true, decide_false, init_1 (show (1 : Int) ≠ 0 by decide)]
  rfl
theorem r_add {a b c d : Int} {p q : Nat} (hb : b ≠ 0) (hd : d ≠ 0) (ha : Bd p a) (hb' : Bd p b) (hc : Bd q c) (hd' : Bd q d) (l : p + q ≤ 99999998) : φ_Ratio_add [.val (ob a b), .val (ob c d)] = .ok (.d (ob (nrN (a * d + c * b) (b * d)) (nrD (a * d + c * b) (b * d)))) [] := by
  refine fnF_rt (e := [.val (ob a b), .val (ob c d)]) (e1 := [.val (ob a b), .val (ob c d)]) rfl rfl ?_ rfl
  unfold g_Ratio_add
  simp only [sIf, cTr, cOp, two, ofOp, cV, cBi, cAd, cA0, cAs, cK, sRet, sRetO, cIx, cIxO, withO, sNx, sSet, sSetO, sDrop, cApp, cCall, callR, svs, slots, putA, setO, cMake, cMeth, cFld, cSfld, sFld0, cTup, cLst, cAnd, cOr, cNot, asB, cAndT, cOrT, cNotT, cIf, cIsi, cNeg, cNegM, cProp, cLenO, sRetN, sBk, sCt, sAsg, gT, gC, gN, g0, iD, iR1, iR2, avI, R.bind, R.bindT, R.bindA, R.bindS, R.bindR, RT.bind, RT.bindT, RT.bindS, RA.bind, RA.bindI, avD, bLen, bInt, bAbs, bGcd, bTup, bLst, truthD, kd, fz, ofR, canSet, isOwn, add_ii, sub_ii, lt_ii, le_ii, gt_ii, ge_ii, eq_ii, ne_ii, eqM_i, own_i, own_oo, eqX_i, List.lookup, Option.map, Option.bind, List.map_nil, List.map_cons, List.append_nil, List.nil_append, List.cons_append, List.getElem?_cons_zero, List.getElem?_cons_succ, List.set, List.nodup_nil, List.length_cons, List.length_nil, List.length_map, if_true, if_false, Bool.false_eq_true, reduceIte, Bool.not_true, Bool.not_false, Bool.and_true, Bool.and_false, Bool.true_and, Bool.false_and, Nat.reduceAdd, Nat.zero_le, Nat.reduceBEq, beq_self_eq_true, decide_true, decide_false, mul_ii (ha.ok hd' l), mul_ii (hc.ok hb' (by omega)), mul_ii (hb'.ok hd' l), mk_1 (Int.mul_ne_zero hb hd)]
theorem r_sub {a b c d : Int} {p q : Nat} (hb : b ≠ 0) (hd : d ≠ 0) (ha : Bd p a) (hb' : Bd p b) (hc : Bd q c) (hd' : Bd q d) (l : p + q ≤ 99999998) : φ_Ratio_sub [.val (ob a b), .val (ob c d)] = .ok (.d (ob (nrN (a * d - c * b) (b * d)) (nrD (a * d - c * b) (b * d)))) [] := by
  refine fnF_rt (e := [.val (ob a b), .val (ob c d)]) (e1 := [.val (ob a b), .val (ob c d)]) rfl rfl ?_ rfl
  unfold g_Ratio_sub
  simp only [sIf, cTr, cOp, two, ofOp, cV, cBi, cAd, cA0, cAs, cK, sRet, sRetO, cIx, cIxO, withO, sNx, sSet, sSetO, sDrop, cApp, cCall, callR, svs, slots, putA, setO, cMake, cMeth, cFld, cSfld, sFld0, cTup, cLst, cAnd, cOr, cNot, asB, cAndT, cOrT, cNotT, cIf, cIsi, cNeg, cNegM, cProp, cLenO, sRetN, sBk, sCt, sAsg, gT, gC, gN, g0, iD, iR1, iR2, avI, R.bind, R.bindT, R.bindA, R.bindS, R.bindR, RT.bind, RT.bindT, RT.bindS, RA.bind, RA.bindI, avD, bLen, bInt, bAbs, bGcd, bTup, bLst, truthD, kd, fz, ofR, canSet, isOwn, add_ii, sub_ii, lt_ii, le_ii, gt_ii, ge_ii, eq_ii, ne_ii, eqM_i, own_i, own_oo, eqX_i, List.lookup, Option.map, Option.bind, List.map_nil, List.map_cons, List.append_nil, List.nil_append, List.cons_append, List.getElem?_cons_zero, List.getElem?_cons_succ, List.set, List.nodup_nil, List.length_cons, List.length_nil, List.length_map, if_true, if_false, Bool.false_eq_true, reduceIte, Bool.not_true, Bool.not_false, Bool.and_true, Bool.and_false, Bool.true_and, Bool.false_and, Nat.reduceAdd, Nat.zero_le, Nat.reduceBEq, beq_self_eq_true, decide_true, decide_false, mul_ii (ha.ok hd' l), mul_ii (hc.ok hb' (by omega)), mul_ii (hb'.ok hd' l), mk_1 (Int.mul_ne_zero hb hd)]
theorem r_mul {a b c d : Int} {p q : Nat} (hb : b ≠ 0) (hd : d ≠ 0) (ha : Bd p a) (hb' : Bd p b) (hc : Bd q c) (hd' : Bd q d) (l : p + q ≤ 99999998) : φ_Ratio_mul [.val (ob a b), .val (ob c d)] = .ok (.d (ob (nrN (a * c) (b * d)) (nrD (a * c) (b * d)))) [] := by
  refine fnF_rt (e := [.val (ob a b), .val (ob c d)]) (e1 := [.val (ob a b), .val (ob c d)]) rfl rfl ?_ rfl
  unfold g_Ratio_mul
  simp only [sIf, cTr, cOp, two, ofOp, cV, cBi, cAd, cA0, cAs, cK, sRet, sRetO, cIx, cIxO, withO, sNx, sSet, sSetO, sDrop, cApp, cCall, callR, svs, slots, putA, setO, cMake, cMeth, cFld, cSfld, sFld0, cTup, cLst, cAnd, cOr, cNot, asB, cAndT, cOrT, cNotT, cIf, cIsi, cNeg, cNegM, cProp, cLenO, sRetN, sBk, sCt, sAsg, gT, gC, gN, g0, iD, iR1, iR2, avI, R.bind, R.bindT, R.bindA, R.bindS, R.bindR, RT.bind, RT.bindT, RT.bindS, RA.bind, RA.bindI, avD, bLen, bInt, bAbs, bGcd, bTup, bLst, truthD, kd, fz, ofR, canSet, isOwn, add_ii, sub_ii, lt_ii, le_ii, gt_ii, ge_ii, eq_ii, ne_ii, eqM_i, own_i, own_oo, eqX_i, List.lookup, Option.map, Option.bind, List.map_nil, List.map_cons, List.append_nil, List.nil_append, List.cons_append, List.getElem?_cons_zero, List.getElem?_cons_succ, List.set, List.nodup_nil, List.length_cons, List.length_nil, List.length_map, if_true, if_false, Bool.false_eq_true, reduceIte, Bool.not_true, Bool.not_false, Bool.and_true, Bool.and_false, Bool.true_and, Bool.false_and, Nat.reduceAdd, Nat.zero_le, Nat.reduceBEq, beq_self_eq_true, decide_true, decide_false, mul_ii (ha.ok hc l), mul_ii (hb'.ok hd' l), mk_1 (Int.mul_ne_zero hb hd)]
theorem r_neg {a b : Int} (hb : b ≠ 0) : φ_Ratio_neg [.val (ob a b)] = .ok (.d (ob (nrN (-a) b) (nrD (-a) b))) [] := by
  refine fnF_rt (e := [.val (ob a b)]) (e1 := [.val (ob a b)]) rfl rfl ?_ rfl
  unfold g_Ratio_neg
  simp only [sIf, cTr, cOp, two, ofOp, cV, cBi, cAd, cA0, cAs, cK, sRet, sRetO, cIx, cIxO, withO, sNx, sSet, sSetO, sDrop, cApp, cCall, callR, svs, slots, putA, setO, cMake, cMeth, cFld, cSfld, sFld0, cTup, cLst, cAnd, cOr, cNot, asB, cAndT, cOrT, cNotT, cIf, cIsi, cNeg, cNegM, cProp, cLenO, sRetN, sBk, sCt, sAsg, gT, gC, gN, g0, iD, iR1, iR2, avI, R.bind, R.bindT, R.bindA, R.bindS, R.bindR, RT.bind, RT.bindT, RT.bindS, RA.bind, RA.bindI, avD, bLen, bInt, bAbs, bGcd, bTup, bLst, truthD, kd, fz, ofR, canSet, isOwn, add_ii, sub_ii, lt_ii, le_ii, gt_ii, ge_ii, eq_ii, ne_ii, eqM_i, own_i, own_oo, eqX_i, List.lookup, Option.map, Option.bind, List.map_nil, List.map_cons, List.append_nil, List.nil_append, List.cons_append, List.getElem?_cons_zero, List.getElem?_cons_succ, List.set, List.nodup_nil, List.length_cons, List.length_nil, List.length_map, if_true, if_false, Bool.false_eq_true, reduceIte, Bool.not_true, Bool.not_false, Bool.and_true, Bool.and_false, Bool.true_and, Bool.false_and, Nat.reduceAdd, Nat.zero_le, Nat.reduceBEq, beq_self_eq_true, decide_true, decide_false, mk_1 hb]
theorem r_inv {a b : Int} (ha : a ≠ 0) : φ_Ratio_inverse [.val (ob a b)] = .ok (.d (ob (nrN b a) (nrD b a))) [] := by
  refine fnF_rt (e := [.val (ob a b)]) (e1 := [.val (ob a b)]) rfl rfl ?_ rfl
  unfold g_Ratio_inverse
  simp only [sIf, cTr, cOp, two, ofOp, cV, cBi, cAd, cA0, cAs, cK, sRet, sRetO, cIx, cIxO, withO, sNx, sSet, sSetO, sDrop, cApp, cCall, callR, svs, slots, putA, setO, cMake, cMeth, cFld, cSfld, sFld0, cTup, cLst, cAnd, cOr, cNot, asB, cAndT, cOrT, cNotT, cIf, cIsi, cNeg, cNegM, cProp, cLenO, sRetN, sBk, sCt, sAsg, gT, gC, gN, g0, iD, iR1, iR2, avI, R.bind, R.bindT, R.bindA, R.bindS, R.bindR, RT.bind, RT.bindT, RT.bindS, RA.bind, RA.bindI, avD, bLen, bInt, bAbs, bGcd, bTup, bLst, truthD, kd, fz, ofR, canSet, isOwn, add_ii, sub_ii, lt_ii, le_ii, gt_ii, ge_ii, eq_ii, ne_ii, eqM_i, own_i, own_oo, eqX_i, List.lookup, Option.map, Option.bind, List.map_nil, List.map_cons, List.append_nil, List.nil_append, List.cons_append, List.getElem?_cons_zero, List.getElem?_cons_succ, List.set, List.nodup_nil, List.length_cons, List.length_nil, List.length_map, if_true, if_false, Bool.false_eq_true, reduceIte, Bool.not_true, Bool.not_false, Bool.and_true, Bool.and_false, Bool.true_and, Bool.false_and, Nat.reduceAdd, Nat.zero_le, Nat.reduceBEq, beq_self_eq_true, decide_true, decide_false, mk_1 ha]
theorem r_inv0 (b : Int) : φ_Ratio_inverse [.val (ob 0 b)] = .ex ⟨1, []⟩ [] := by
  refine fnF_ex (e := [.val (ob 0 b)]) (e1 := [.val (ob 0 b)]) rfl rfl ?_ rfl
  unfold g_Ratio_inverse
  simp only [sIf, cTr, cOp, two, ofOp, cV, cBi, cAd, cA0, cAs, cK, sRet, sRetO, cIx, cIxO, withO, sNx, sSet, sSetO, sDrop, cApp, cCall, callR, svs, slots, putA, setO, cMake, cMeth, cFld, cSfld, sFld0, cTup, cLst, cAnd, cOr, cNot, asB, cAndT, cOrT, cNotT, cIf, cIsi, cNeg, cNegM, cProp, cLenO, sRetN, sBk, sCt, sAsg, gT, gC, gN, g0, iD, iR1, iR2, avI, R.bind, R.bindT, R.bindA, R.bindS, R.bindR, RT.bind, RT.bindT, RT.bindS, RA.bind, RA.bindI, avD, bLen, bInt, bAbs, bGcd, bTup, bLst, truthD, kd, fz, ofR, canSet, isOwn, add_ii, sub_ii, lt_ii, le_ii, gt_ii, ge_ii, eq_ii, ne_ii, eqM_i, own_i, own_oo, eqX_i, List.lookup, Option.map, Option.bind, List.map_nil, List.map_cons, List.append_nil, List.nil_append, List.cons_append, List.getElem?_cons_zero, List.getElem?_cons_succ, List.set, List.nodup_nil, List.length_cons, List.length_nil, List.length_map, if_true, if_false, Bool.false_eq_true, reduceIte, Bool.not_true, Bool.not_false, Bool.and_true, Bool.and_false, Bool.true_and, Bool.false_and, Nat.reduceAdd, Nat.zero_le, Nat.reduceBEq, beq_self_eq_true, decide_true, decide_false, mk_0]
theorem r_over {a b c d : Int} {p q : Nat} (hb : b ≠ 0) (hc0 : c ≠ 0) (ha : Bd p a) (hb' : Bd p b) (hc : Bd q c) (hd' : Bd q d) (l : p + q ≤ 99999998) : φ_Ratio_over [.val (ob a b), .val (ob c d)] = .ok (.d (ob (nrN (a * d) (b * c)) (nrD (a * d) (b * c)))) [] := by
  refine fnF_rt (e := [.val (ob a b), .val (ob c d)]) (e1 := [.val (ob a b), .val (ob c d)]) rfl rfl ?_ rfl
  unfold g_Ratio_over
  simp only [sIf, cTr, cOp, two, ofOp, cV, cBi, cAd, cA0, cAs, cK, sRet, sRetO, cIx, cIxO, withO, sNx, sSet, sSetO, sDrop, cApp, cCall, callR, svs, slots, putA, setO, cMake, cMeth, cFld, cSfld, sFld0, cTup, cLst, cAnd, cOr, cNot, asB, cAndT, cOrT, cNotT, cIf, cIsi, cNeg, cNegM, cProp, cLenO, sRetN, sBk, sCt, sAsg, gT, gC, gN, g0, iD, iR1, iR2, avI, R.bind, R.bindT, R.bindA, R.bindS, R.bindR, RT.bind, RT.bindT, RT.bindS, RA.bind, RA.bindI, avD, bLen, bInt, bAbs, bGcd, bTup, bLst, truthD, kd, fz, ofR, canSet, isOwn, add_ii, sub_ii, lt_ii, le_ii, gt_ii, ge_ii, eq_ii, ne_ii, eqM_i, own_i, own_oo, eqX_i, List.lookup, Option.map, Option.bind, List.map_nil, List.map_cons, List.append_nil, List.nil_append, List.cons_append, List.getElem?_cons_zero, List.getElem?_cons_succ, List.set, List.nodup_nil, List.length_cons, List.length_nil, List.length_map, if_true, if_false, Bool.false_eq_true, reduceIte, Bool.not_true, Bool.not_false, Bool.and_true, Bool.and_false, Bool.true_and, Bool.false_and, Nat.reduceAdd, Nat.zero_le, Nat.reduceBEq, beq_self_eq_true, decide_true, decide_false, mul_ii (ha.ok hd' l), mul_ii (hb'.ok hc l), mk_1 (Int.mul_ne_zero hb hc0)]
theorem r_over0 {a b d : Int} {p q : Nat} (ha : Bd p a) (hb' : Bd p b) (hd' : Bd q d) (l : p + q ≤ 99999998) (q1 : 1 ≤ q) : φ_Ratio_over [.val (ob a b), .val (ob 0 d)] = .ex ⟨1, []⟩ [] := by
  refine fnF_ex (e := [.val (ob a b), .val (ob 0 d)]) (e1 := [.val (ob a b), .val (ob 0 d)]) rfl rfl ?_ rfl
  unfold g_Ratio_over
  simp only [sIf, cTr, cOp, two, ofOp, cV, cBi, cAd, cA0, cAs, cK, sRet, sRetO, cIx, cIxO, withO, sNx, sSet, sSetO, sDrop, cApp, cCall, callR, svs, slots, putA, setO, cMake, cMeth, cFld, cSfld, sFld0, cTup, cLst, cAnd, cOr, cNot, asB, cAndT, cOrT, cNotT, cIf, cIsi, cNeg, cNegM, cProp, cLenO, sRetN, sBk, sCt, sAsg, gT, gC, gN, g0, iD, iR1, iR2, avI, R.bind, R.bindT, R.bindA, R.bindS, R.bindR, RT.bind, RT.bindT, RT.bindS, RA.bind, RA.bindI, avD, bLen, bInt, bAbs, bGcd, bTup, bLst, truthD, kd, fz, ofR, canSet, isOwn, add_ii, sub_ii, lt_ii, le_ii, gt_ii, ge_ii, eq_ii, ne_ii, eqM_i, own_i, own_oo, eqX_i, List.lookup, Option.map, Option.bind, List.map_nil, List.map_cons, List.append_nil, List.nil_append, List.cons_append, List.getElem?_cons_zero, List.getElem?_cons_succ, List.set, List.nodup_nil, List.length_cons, List.length_nil, List.length_map, if_true, if_false, Bool.false_eq_true, reduceIte, Bool.not_true, Bool.not_false, Bool.and_true, Bool.and_false, Bool.true_and, Bool.false_and, Nat.reduceAdd, Nat.zero_le, Nat.reduceBEq, beq_self_eq_true, decide_true, decide_false, mul_ii (ha.ok hd' l), mul_ii (hb'.ok (Bd.zero.mono q1) l), Int.mul_zero, mk_0]
end L2.S.W

set_option Elab.async false
set_option linter.all false
set_option maxRecDepth 100000
set_option maxHeartbeats 8000000
namespace L2.S.W
open PySem PySem.Spec PyProof.Rows L2 L2.S
theorem r_pow {a b : Int} {p : Nat} {k : Nat} (m : Nat) (hb : b ≠ 0) (ha : Bd p a) (hb' : Bd p b) (hk : k ≤ 5) (l : p ≤ 9000000) : φn_Ratio_power (m + 1) [.val (ob a b), .val (.int k)] = .ok (.d (ob (nrN (a ^ k) (b ^ k)) (nrD (a ^ k) (b ^ k)))) [] := by
  have s0 : startE [.val (ob a b), .val (.int k)] 5 = [.val (ob a b), .val (.int k), .un, .un, .un] := rfl
  have c1 : cTr (cOp (pLt) (cV 1) (cK (.int 0))) [.val (ob a b), .val (.int k), .un, .un, .un] = .ok false [.val (ob a b), .val (.int k), .un, .un, .un] := by
    have : ¬ ((k : Int) < 0) := by omega
    simp only [sIf, cTr, cOp, two, ofOp, cV, cBi, cAd, cA0, cAs, cK, sRet, sRetO, cIx, cIxO, withO, sNx, sSet, sSetO, sDrop, cApp, cCall, callR, svs, slots, putA, setO, cMake, cMeth, cFld, cSfld, sFld0, cTup, cLst, cAnd, cOr, cNot, asB, cAndT, cOrT, cNotT, cIf, cIsi, cNeg, cNegM, cProp, cLenO, sRetN, sBk, sCt, sAsg, gT, gC, gN, g0, iD, iR1, iR2, avI, R.bind, R.bindT, R.bindA, R.bindS, R.bindR, RT.bind, RT.bindT, RT.bindS, RA.bind, RA.bindI, avD, bLen, bInt, bAbs, bGcd, bTup, bLst, truthD, kd, fz, ofR, canSet, isOwn, add_ii, sub_ii, lt_ii, le_ii, gt_ii, ge_ii, eq_ii, ne_ii, eqM_i, own_i, own_oo, eqX_i, List.lookup, Option.map, Option.bind, List.map_nil, List.map_cons, List.append_nil, List.nil_append, List.cons_append, List.getElem?_cons_zero, List.getElem?_cons_succ, List.set, List.nodup_nil, List.length_cons, List.length_nil, List.length_map, if_true, if_false, Bool.false_eq_true, reduceIte, Bool.not_true, Bool.not_false, Bool.and_true, Bool.and_false, Bool.true_and, Bool.false_and, Nat.reduceAdd, Nat.zero_le, Nat.reduceBEq, beq_self_eq_true, decide_true, decide_false, this]
  have e2 : sAsg (cTup (cAd (cK (.int 1)) (cAd (cK (.int 1)) (cA0)))) (gT 2 (gC (gN 2) (gC (gN 3) (g0)))) [.val (ob a b), .val (.int k), .un, .un, .un] = .nx [.val (ob a b), .val (.int k), .val (.int 1), .val (.int 1), .un] := rfl
  obtain ⟨e', h1, h2⟩ := for_run (f := iR1 (cAd (cV 1) (cA0))) (h := gN 4) (t := sSeq (sSet 2 (cOp pMul (cV 2) (cFld [(0, 0)] (cV 0)))) (
sSet 3 (cOp pMul (cV 3) (cFld [(0, 1)] (cV 0))))) (env := [.val (ob a b), .val (.int k), .val (.int 1), .val (.int 1), .un])
    (fun i e => ∃ x, e = [.val (ob a b), .val (.int k), .val (.int (a ^ i)), .val (.int (b ^ i)), x] ∧ Fr1 x) (iR1_at (n := k) rfl (by omega)) ⟨.un, by rw [Int.pow_zero, Int.pow_zero], .un⟩ (by
      rintro i d e hd ⟨x, rfl, hx⟩
      obtain ⟨hi, rfl⟩ := rng_get hd
      refine ⟨_, gN_at (hx.can rfl), _, .inl ?_, .val (.int i), rfl, .val⟩
      have lp : (p * i + 1) + p ≤ 99999998 := by
        have : p * i ≤ 9000000 * 5 := Nat.mul_le_mul l (by omega)
        omega
      have a1 : sSet 2 (cOp pMul (cV 2) (cFld [(0, 0)] (cV 0))) [.val (ob a b), .val (.int k), .val (.int (a ^ i)), .val (.int (b ^ i)), .val (.int i)] = .nx [.val (ob a b), .val (.int k), .val (.int (a ^ (i + 1))), .val (.int (b ^ i)), .val (.int i)] := by
        simp only [sIf, cTr, cOp, two, ofOp, cV, cBi, cAd, cA0, cAs, cK, sRet, sRetO, cIx, cIxO, withO, sNx, sSet, sSetO, sDrop, cApp, cCall, callR, svs, slots, putA, setO, cMake, cMeth, cFld, cSfld, sFld0, cTup, cLst, cAnd, cOr, cNot, asB, cAndT, cOrT, cNotT, cIf, cIsi, cNeg, cNegM, cProp, cLenO, sRetN, sBk, sCt, sAsg, gT, gC, gN, g0, iD, iR1, iR2, avI, R.bind, R.bindT, R.bindA, R.bindS, R.bindR, RT.bind, RT.bindT, RT.bindS, RA.bind, RA.bindI, avD, bLen, bInt, bAbs, bGcd, bTup, bLst, truthD, kd, fz, ofR, canSet, isOwn, add_ii, sub_ii, lt_ii, le_ii, gt_ii, ge_ii, eq_ii, ne_ii, eqM_i, own_i, own_oo, eqX_i, List.lookup, Option.map, Option.bind, List.map_nil, List.map_cons, List.append_nil, List.nil_append, List.cons_append, List.getElem?_cons_zero, List.getElem?_cons_succ, List.set, List.nodup_nil, List.length_cons, List.length_nil, List.length_map, if_true, if_false, Bool.false_eq_true, reduceIte, Bool.not_true, Bool.not_false, Bool.and_true, Bool.and_false, Bool.true_and, Bool.false_and, Nat.reduceAdd, Nat.zero_le, Nat.reduceBEq, beq_self_eq_true, decide_true, decide_false, mul_ii ((ha.pow i).ok ha lp), Int.pow_succ]
      refine (seq_nx a1).trans ?_
      simp only [sIf, cTr, cOp, two, ofOp, cV, cBi, cAd, cA0, cAs, cK, sRet, sRetO, cIx, cIxO, withO, sNx, sSet, sSetO, sDrop, cApp, cCall, callR, svs, slots, putA, setO, cMake, cMeth, cFld, cSfld, sFld0, cTup, cLst, cAnd, cOr, cNot, asB, cAndT, cOrT, cNotT, cIf, cIsi, cNeg, cNegM, cProp, cLenO, sRetN, sBk, sCt, sAsg, gT, gC, gN, g0, iD, iR1, iR2, avI, R.bind, R.bindT, R.bindA, R.bindS, R.bindR, RT.bind, RT.bindT, RT.bindS, RA.bind, RA.bindI, avD, bLen, bInt, bAbs, bGcd, bTup, bLst, truthD, kd, fz, ofR, canSet, isOwn, add_ii, sub_ii, lt_ii, le_ii, gt_ii, ge_ii, eq_ii, ne_ii, eqM_i, own_i, own_oo, eqX_i, List.lookup, Option.map, Option.bind, List.map_nil, List.map_cons, List.append_nil, List.nil_append, List.cons_append, List.getElem?_cons_zero, List.getElem?_cons_succ, List.set, List.nodup_nil, List.length_cons, List.length_nil, List.length_map, if_true, if_false, Bool.false_eq_true, reduceIte, Bool.not_true, Bool.not_false, Bool.and_true, Bool.and_false, Bool.true_and, Bool.false_and, Nat.reduceAdd, Nat.zero_le, Nat.reduceBEq, beq_self_eq_true, decide_true, decide_false, mul_ii ((hb'.pow i).ok hb' lp), Int.pow_succ])
  obtain ⟨x, rfl, hx⟩ := h2
  rw [List.length_map, List.length_range] at h1
  refine fnF_rt rfl s0 (e1 := [.val (ob a b), .val (.int k), .val (.int (a ^ k)), .val (.int (b ^ k)), x]) ?_ rfl
  unfold g_Ratio_power
  rw [seq_nx (if_fn c1), seq_nx e2, seq_nx h1]
  simp only [sIf, cTr, cOp, two, ofOp, cV, cBi, cAd, cA0, cAs, cK, sRet, sRetO, cIx, cIxO, withO, sNx, sSet, sSetO, sDrop, cApp, cCall, callR, svs, slots, putA, setO, cMake, cMeth, cFld, cSfld, sFld0, cTup, cLst, cAnd, cOr, cNot, asB, cAndT, cOrT, cNotT, cIf, cIsi, cNeg, cNegM, cProp, cLenO, sRetN, sBk, sCt, sAsg, gT, gC, gN, g0, iD, iR1, iR2, avI, R.bind, R.bindT, R.bindA, R.bindS, R.bindR, RT.bind, RT.bindT, RT.bindS, RA.bind, RA.bindI, avD, bLen, bInt, bAbs, bGcd, bTup, bLst, truthD, kd, fz, ofR, canSet, isOwn, add_ii, sub_ii, lt_ii, le_ii, gt_ii, ge_ii, eq_ii, ne_ii, eqM_i, own_i, own_oo, eqX_i, List.lookup, Option.map, Option.bind, List.map_nil, List.map_cons, List.append_nil, List.nil_append, List.cons_append, List.getElem?_cons_zero, List.getElem?_cons_succ, List.set, List.nodup_nil, List.length_cons, List.length_nil, List.length_map, if_true, if_false, Bool.false_eq_true, reduceIte, Bool.not_true, Bool.not_false, Bool.and_true, Bool.and_false, Bool.true_and, Bool.false_and, Nat.reduceAdd, Nat.zero_le, Nat.reduceBEq, beq_self_eq_true, decide_true, decide_false, mk_1 (Int.pow_ne_zero hb)]
theorem r_pownm {a b : Int} {p : Nat} {k : Nat} (m : Nat) (ha0 : a ≠ 0) (hb0 : b ≠ 0) (ha : Bd p a) (hb' : Bd p b) (hk : k ≤ 5) (h0 : 0 < k) (l : p ≤ 9000000) : φn_Ratio_power (m + 1 + 1) [.val (ob a b), .val (.int (-(k : Int)))] = .ok (.d (ob (nrN (nrN b a ^ k) (nrD b a ^ k)) (nrD (nrN b a ^ k) (nrD b a ^ k)))) [] := by
  have s0 : startE [.val (ob a b), .val (.int (-(k : Int)))] 5 = [.val (ob a b), .val (.int (-(k : Int))), .un, .un, .un] := rfl
  have c1 : cTr (cOp (pLt) (cV 1) (cK (.int 0))) [.val (ob a b), .val (.int (-(k : Int))), .un, .un, .un] = .ok true [.val (ob a b), .val (.int (-(k : Int))), .un, .un, .un] := by
    have : (-(k : Int) < 0) := by omega
    simp only [sIf, cTr, cOp, two, ofOp, cV, cBi, cAd, cA0, cAs, cK, sRet, sRetO, cIx, cIxO, withO, sNx, sSet, sSetO, sDrop, cApp, cCall, callR, svs, slots, putA, setO, cMake, cMeth, cFld, cSfld, sFld0, cTup, cLst, cAnd, cOr, cNot, asB, cAndT, cOrT, cNotT, cIf, cIsi, cNeg, cNegM, cProp, cLenO, sRetN, sBk, sCt, sAsg, gT, gC, gN, g0, iD, iR1, iR2, avI, R.bind, R.bindT, R.bindA, R.bindS, R.bindR, RT.bind, RT.bindT, RT.bindS, RA.bind, RA.bindI, avD, bLen, bInt, bAbs, bGcd, bTup, bLst, truthD, kd, fz, ofR, canSet, isOwn, add_ii, sub_ii, lt_ii, le_ii, gt_ii, ge_ii, eq_ii, ne_ii, eqM_i, own_i, own_oo, eqX_i, List.lookup, Option.map, Option.bind, List.map_nil, List.map_cons, List.append_nil, List.nil_append, List.cons_append, List.getElem?_cons_zero, List.getElem?_cons_succ, List.set, List.nodup_nil, List.length_cons, List.length_nil, List.length_map, if_true, if_false, Bool.false_eq_true, reduceIte, Bool.not_true, Bool.not_false, Bool.and_true, Bool.and_false, Bool.true_and, Bool.false_and, Nat.reduceAdd, Nat.zero_le, Nat.reduceBEq, beq_self_eq_true, decide_true, decide_false, this]
  have hD := nrD_pos (n := b) ha0
  refine fnF_rt rfl s0 (e1 := [.val (ob a b), .val (.int (-(k : Int))), .un, .un, .un]) ?_ rfl
  unfold g_Ratio_power
  have a1 : cNegM [(0, φ_Ratio_neg)] (cV 1) [.val (ob a b), .val (.int (-(k : Int))), .un, .un, .un] = .ok (.d (.int k)) [.val (ob a b), .val (.int (-(k : Int))), .un, .un, .un] := by
    simp only [sIf, cTr, cOp, two, ofOp, cV, cBi, cAd, cA0, cAs, cK, sRet, sRetO, cIx, cIxO, withO, sNx, sSet, sSetO, sDrop, cApp, cCall, callR, svs, slots, putA, setO, cMake, cMeth, cFld, cSfld, sFld0, cTup, cLst, cAnd, cOr, cNot, asB, cAndT, cOrT, cNotT, cIf, cIsi, cNeg, cNegM, cProp, cLenO, sRetN, sBk, sCt, sAsg, gT, gC, gN, g0, iD, iR1, iR2, avI, R.bind, R.bindT, R.bindA, R.bindS, R.bindR, RT.bind, RT.bindT, RT.bindS, RA.bind, RA.bindI, avD, bLen, bInt, bAbs, bGcd, bTup, bLst, truthD, kd, fz, ofR, canSet, isOwn, add_ii, sub_ii, lt_ii, le_ii, gt_ii, ge_ii, eq_ii, ne_ii, eqM_i, own_i, own_oo, eqX_i, List.lookup, Option.map, Option.bind, List.map_nil, List.map_cons, List.append_nil, List.nil_append, List.cons_append, List.getElem?_cons_zero, List.getElem?_cons_succ, List.set, List.nodup_nil, List.length_cons, List.length_nil, List.length_map, if_true, if_false, Bool.false_eq_true, reduceIte, Bool.not_true, Bool.not_false, Bool.and_true, Bool.and_false, Bool.true_and, Bool.false_and, Nat.reduceAdd, Nat.zero_le, Nat.reduceBEq, beq_self_eq_true, decide_true, decide_false, Int.neg_neg]
  have a2 : cMeth 0 φ_Ratio_inverse [] (cV 0) cA0 [.val (ob a b), .val (.int (-(k : Int))), .un, .un, .un] = .ok (.d (ob (nrN b a) (nrD b a))) [.val (ob a b), .val (.int (-(k : Int))), .un, .un, .un] := by
    simp only [sIf, cTr, cOp, two, ofOp, cV, cBi, cAd, cA0, cAs, cK, sRet, sRetO, cIx, cIxO, withO, sNx, sSet, sSetO, sDrop, cApp, cCall, callR, svs, slots, putA, setO, cMake, cMeth, cFld, cSfld, sFld0, cTup, cLst, cAnd, cOr, cNot, asB, cAndT, cOrT, cNotT, cIf, cIsi, cNeg, cNegM, cProp, cLenO, sRetN, sBk, sCt, sAsg, gT, gC, gN, g0, iD, iR1, iR2, avI, R.bind, R.bindT, R.bindA, R.bindS, R.bindR, RT.bind, RT.bindT, RT.bindS, RA.bind, RA.bindI, avD, bLen, bInt, bAbs, bGcd, bTup, bLst, truthD, kd, fz, ofR, canSet, isOwn, add_ii, sub_ii, lt_ii, le_ii, gt_ii, ge_ii, eq_ii, ne_ii, eqM_i, own_i, own_oo, eqX_i, List.lookup, Option.map, Option.bind, List.map_nil, List.map_cons, List.append_nil, List.nil_append, List.cons_append, List.getElem?_cons_zero, List.getElem?_cons_succ, List.set, List.nodup_nil, List.length_cons, List.length_nil, List.length_map, if_true, if_false, Bool.false_eq_true, reduceIte, Bool.not_true, Bool.not_false, Bool.and_true, Bool.and_false, Bool.true_and, Bool.false_and, Nat.reduceAdd, Nat.zero_le, Nat.reduceBEq, beq_self_eq_true, decide_true, decide_false, r_inv ha0]
  refine seq_rt ((if_t c1).trans (ret_at (meth_at a2 (ad_at a1 rfl) ?_)))
  have q1 := r_pow (k := k) m (show nrD b a ≠ 0 by omega) (hb'.nrN ha0) (ha.nrD ha0) hk l
  exact call_2 q1
theorem r_pown {a b : Int} {p : Nat} {k : Nat} (ha0 : a ≠ 0) (hb0 : b ≠ 0) (ha : Bd p a) (hb' : Bd p b) (hk : k ≤ 5) (h0 : 0 < k) (l : p ≤ 9000000) : φ_Ratio_power [.val (ob a b), .val (.int (-(k : Int)))] = .ok (.d (ob (nrN (nrN b a ^ k) (nrD b a ^ k)) (nrD (nrN b a ^ k) (nrD b a ^ k)))) [] := r_pownm 0 ha0 hb0 ha hb' hk h0 l
theorem r_pow0 {b : Int} {k : Nat} (h0 : 0 < k) : φ_Ratio_power [.val (ob 0 b), .val (.int (-(k : Int)))] = .ex ⟨1, []⟩ [] := by
  have s0 : startE [.val (ob 0 b), .val (.int (-(k : Int)))] 5 = [.val (ob 0 b), .val (.int (-(k : Int))), .un, .un, .un] := rfl
  have c1 : cTr (cOp (pLt) (cV 1) (cK (.int 0))) [.val (ob 0 b), .val (.int (-(k : Int))), .un, .un, .un] = .ok true [.val (ob 0 b), .val (.int (-(k : Int))), .un, .un, .un] := by
    have : (-(k : Int) < 0) := by omega
    simp only [sIf, cTr, cOp, two, ofOp, cV, cBi, cAd, cA0, cAs, cK, sRet, sRetO, cIx, cIxO, withO, sNx, sSet, sSetO, sDrop, cApp, cCall, callR, svs, slots, putA, setO, cMake, cMeth, cFld, cSfld, sFld0, cTup, cLst, cAnd, cOr, cNot, asB, cAndT, cOrT, cNotT, cIf, cIsi, cNeg, cNegM, cProp, cLenO, sRetN, sBk, sCt, sAsg, gT, gC, gN, g0, iD, iR1, iR2, avI, R.bind, R.bindT, R.bindA, R.bindS, R.bindR, RT.bind, RT.bindT, RT.bindS, RA.bind, RA.bindI, avD, bLen, bInt, bAbs, bGcd, bTup, bLst, truthD, kd, fz, ofR, canSet, isOwn, add_ii, sub_ii, lt_ii, le_ii, gt_ii, ge_ii, eq_ii, ne_ii, eqM_i, own_i, own_oo, eqX_i, List.lookup, Option.map, Option.bind, List.map_nil, List.map_cons, List.append_nil, List.nil_append, List.cons_append, List.getElem?_cons_zero, List.getElem?_cons_succ, List.set, List.nodup_nil, List.length_cons, List.length_nil, List.length_map, if_true, if_false, Bool.false_eq_true, reduceIte, Bool.not_true, Bool.not_false, Bool.and_true, Bool.and_false, Bool.true_and, Bool.false_and, Nat.reduceAdd, Nat.zero_le, Nat.reduceBEq, beq_self_eq_true, decide_true, decide_false, this]
  refine fnF_ex rfl s0 (e1 := [.val (ob 0 b), .val (.int (-(k : Int))), .un, .un, .un]) ?_ rfl
  unfold g_Ratio_power
  refine seq_ex ?_
  rw [if_t c1]
  simp only [sIf, cTr, cOp, two, ofOp, cV, cBi, cAd, cA0, cAs, cK, sRet, sRetO, cIx, cIxO, withO, sNx, sSet, sSetO, sDrop, cApp, cCall, callR, svs, slots, putA, setO, cMake, cMeth, cFld, cSfld, sFld0, cTup, cLst, cAnd, cOr, cNot, asB, cAndT, cOrT, cNotT, cIf, cIsi, cNeg, cNegM, cProp, cLenO, sRetN, sBk, sCt, sAsg, gT, gC, gN, g0, iD, iR1, iR2, avI, R.bind, R.bindT, R.bindA, R.bindS, R.bindR, RT.bind, RT.bindT, RT.bindS, RA.bind, RA.bindI, avD, bLen, bInt, bAbs, bGcd, bTup, bLst, truthD, kd, fz, ofR, canSet, isOwn, add_ii, sub_ii, lt_ii, le_ii, gt_ii, ge_ii, eq_ii, ne_ii, eqM_i, own_i, own_oo, eqX_i, List.lookup, Option.map, Option.bind, List.map_nil, List.map_cons, List.append_nil, List.nil_append, List.cons_append, List.getElem?_cons_zero, List.getElem?_cons_succ, List.set, List.nodup_nil, List.length_cons, List.length_nil, List.length_map, if_true, if_false, Bool.false_eq_true, reduceIte, Bool.not_true, Bool.not_false, Bool.and_true, Bool.and_false, Bool.true_and, Bool.false_and, Nat.reduceAdd, Nat.zero_le, Nat.reduceBEq, beq_self_eq_true, decide_true, decide_false, r_inv0]
theorem gt_bl (i : Int) : bInt [.bl (decide (0 < i))] = some (.d (.int (if 0 < i then 1 else 0))) := by
  by_cases h : 0 < i <;> simp [bInt, h]
theorem lt_bl (i : Int) : bInt [.bl (decide (i < 0))] = some (.d (.int (if i < 0 then 1 else 0))) := by
  by_cases h : i < 0 <;> simp [bInt, h]
def sg (i : Int) : Int := (if 0 < i then 1 else 0) - (if i < 0 then 1 else 0)
theorem r_cmp {a b c d : Int} {p q : Nat} (ha : Bd p a) (hb' : Bd p b) (hc : Bd q c) (hd' : Bd q d) (l : p + q ≤ 99999998) : φ_Ratio_compare [.val (ob a b), .val (ob c d)] = .ok (.d (.int (sg (a * d - c * b)))) [] := by
  refine fnF_rt (e := [.val (ob a b), .val (ob c d), .un]) (e1 := [.val (ob a b), .val (ob c d), .val (.int (a * d - c * b))]) rfl rfl ?_ rfl
  unfold g_Ratio_compare
  have a1 : sSet 2 (cOp pSubI (cOp pMul (cFld [(0, 0)] (cV 0)) (cFld [(0, 1)] (cV 1))) (cOp pMul (cFld [(0, 0)] (cV 1)) (cFld [(0, 1)] (cV 0)))) [.val (ob a b), .val (ob c d), .un] = .nx [.val (ob a b), .val (ob c d), .val (.int (a * d - c * b))] := by
    simp only [sIf, cTr, cOp, two, ofOp, cV, cBi, cAd, cA0, cAs, cK, sRet, sRetO, cIx, cIxO, withO, sNx, sSet, sSetO, sDrop, cApp, cCall, callR, svs, slots, putA, setO, cMake, cMeth, cFld, cSfld, sFld0, cTup, cLst, cAnd, cOr, cNot, asB, cAndT, cOrT, cNotT, cIf, cIsi, cNeg, cNegM, cProp, cLenO, sRetN, sBk, sCt, sAsg, gT, gC, gN, g0, iD, iR1, iR2, avI, R.bind, R.bindT, R.bindA, R.bindS, R.bindR, RT.bind, RT.bindT, RT.bindS, RA.bind, RA.bindI, avD, bLen, bInt, bAbs, bGcd, bTup, bLst, truthD, kd, fz, ofR, canSet, isOwn, add_ii, sub_ii, lt_ii, le_ii, gt_ii, ge_ii, eq_ii, ne_ii, eqM_i, own_i, own_oo, eqX_i, List.lookup, Option.map, Option.bind, List.map_nil, List.map_cons, List.append_nil, List.nil_append, List.cons_append, List.getElem?_cons_zero, List.getElem?_cons_succ, List.set, List.nodup_nil, List.length_cons, List.length_nil, List.length_map, if_true, if_false, Bool.false_eq_true, reduceIte, Bool.not_true, Bool.not_false, Bool.and_true, Bool.and_false, Bool.true_and, Bool.false_and, Nat.reduceAdd, Nat.zero_le, Nat.reduceBEq, beq_self_eq_true, decide_true, decide_false, mul_ii (ha.ok hd' l), mul_ii (hc.ok hb' (by omega))]
  rw [seq_nx a1]
  by_cases h1 : 0 < a * d - c * b <;> by_cases h2 : a * d - c * b < 0 <;> simp only [sIf, cTr, cOp, two, ofOp, cV, cBi, cAd, cA0, cAs, cK, sRet, sRetO, cIx, cIxO, withO, sNx, sSet, sSetO, sDrop, cApp, cCall, callR, svs, slots, putA, setO, cMake, cMeth, cFld, cSfld, sFld0, cTup, cLst, cAnd, cOr, cNot, asB, cAndT, cOrT, cNotT, cIf, cIsi, cNeg, cNegM, cProp, cLenO, sRetN, sBk, sCt, sAsg, gT, gC, gN, g0, iD, iR1, iR2, avI, R.bind, R.bindT, R.bindA, R.bindS, R.bindR, RT.bind, RT.bindT, RT.bindS, RA.bind, RA.bindI, avD, bLen, bInt, bAbs, bGcd, bTup, bLst, truthD, kd, fz, ofR, canSet, isOwn, add_ii, sub_ii, lt_ii, le_ii, gt_ii, ge_ii, eq_ii, ne_ii, eqM_i, own_i, own_oo, eqX_i, List.lookup, Option.map, Option.bind, List.map_nil, List.map_cons, List.append_nil, List.nil_append, List.cons_append, List.getElem?_cons_zero, List.getElem?_cons_succ, List.set, List.nodup_nil, List.length_cons, List.length_nil, List.length_map, if_true, if_false, Bool.false_eq_true, reduceIte, Bool.not_true, Bool.not_false, Bool.and_true, Bool.and_false, Bool.true_and, Bool.false_and, Nat.reduceAdd, Nat.zero_le, Nat.reduceBEq, beq_self_eq_true, decide_true, decide_false, h1, h2, sg]
theorem r_sign {a b : Int} : φ_Ratio_sign [.val (ob a b)] = .ok (.d (.int (sg a))) [] := by
  refine fnF_rt (e := [.val (ob a b)]) (e1 := [.val (ob a b)]) rfl rfl ?_ rfl
  unfold g_Ratio_sign
  by_cases h1 : 0 < a <;> by_cases h2 : a < 0 <;> simp only [sIf, cTr, cOp, two, ofOp, cV, cBi, cAd, cA0, cAs, cK, sRet, sRetO, cIx, cIxO, withO, sNx, sSet, sSetO, sDrop, cApp, cCall, callR, svs, slots, putA, setO, cMake, cMeth, cFld, cSfld, sFld0, cTup, cLst, cAnd, cOr, cNot, asB, cAndT, cOrT, cNotT, cIf, cIsi, cNeg, cNegM, cProp, cLenO, sRetN, sBk, sCt, sAsg, gT, gC, gN, g0, iD, iR1, iR2, avI, R.bind, R.bindT, R.bindA, R.bindS, R.bindR, RT.bind, RT.bindT, RT.bindS, RA.bind, RA.bindI, avD, bLen, bInt, bAbs, bGcd, bTup, bLst, truthD, kd, fz, ofR, canSet, isOwn, add_ii, sub_ii, lt_ii, le_ii, gt_ii, ge_ii, eq_ii, ne_ii, eqM_i, own_i, own_oo, eqX_i, List.lookup, Option.map, Option.bind, List.map_nil, List.map_cons, List.append_nil, List.nil_append, List.cons_append, List.getElem?_cons_zero, List.getElem?_cons_succ, List.set, List.nodup_nil, List.length_cons, List.length_nil, List.length_map, if_true, if_false, Bool.false_eq_true, reduceIte, Bool.not_true, Bool.not_false, Bool.and_true, Bool.and_false, Bool.true_and, Bool.false_and, Nat.reduceAdd, Nat.zero_le, Nat.reduceBEq, beq_self_eq_true, decide_true, decide_false, h1, h2, sg]
theorem r_floor {a b : Int} (hb : b ≠ 0) : φ_Ratio_floor [.val (ob a b)] = .ok (.d (.int (a.fdiv b))) [] := by
  refine fnF_rt (e := [.val (ob a b)]) (e1 := [.val (ob a b)]) rfl rfl ?_ rfl
  unfold g_Ratio_floor
  simp only [sIf, cTr, cOp, two, ofOp, cV, cBi, cAd, cA0, cAs, cK, sRet, sRetO, cIx, cIxO, withO, sNx, sSet, sSetO, sDrop, cApp, cCall, callR, svs, slots, putA, setO, cMake, cMeth, cFld, cSfld, sFld0, cTup, cLst, cAnd, cOr, cNot, asB, cAndT, cOrT, cNotT, cIf, cIsi, cNeg, cNegM, cProp, cLenO, sRetN, sBk, sCt, sAsg, gT, gC, gN, g0, iD, iR1, iR2, avI, R.bind, R.bindT, R.bindA, R.bindS, R.bindR, RT.bind, RT.bindT, RT.bindS, RA.bind, RA.bindI, avD, bLen, bInt, bAbs, bGcd, bTup, bLst, truthD, kd, fz, ofR, canSet, isOwn, add_ii, sub_ii, lt_ii, le_ii, gt_ii, ge_ii, eq_ii, ne_ii, eqM_i, own_i, own_oo, eqX_i, List.lookup, Option.map, Option.bind, List.map_nil, List.map_cons, List.append_nil, List.nil_append, List.cons_append, List.getElem?_cons_zero, List.getElem?_cons_succ, List.set, List.nodup_nil, List.length_cons, List.length_nil, List.length_map, if_true, if_false, Bool.false_eq_true, reduceIte, Bool.not_true, Bool.not_false, Bool.and_true, Bool.and_false, Bool.true_and, Bool.false_and, Nat.reduceAdd, Nat.zero_le, Nat.reduceBEq, beq_self_eq_true, decide_true, decide_false, div_ii hb]
theorem r_zero {a b : Int} : φ_Ratio_is_zero [.val (ob a b)] = .ok (.d (.bl (a == 0))) [] := by
  refine fnF_rt (e := [.val (ob a b)]) (e1 := [.val (ob a b)]) rfl rfl ?_ rfl
  unfold g_Ratio_is_zero
  simp only [sIf, cTr, cOp, two, ofOp, cV, cBi, cAd, cA0, cAs, cK, sRet, sRetO, cIx, cIxO, withO, sNx, sSet, sSetO, sDrop, cApp, cCall, callR, svs, slots, putA, setO, cMake, cMeth, cFld, cSfld, sFld0, cTup, cLst, cAnd, cOr, cNot, asB, cAndT, cOrT, cNotT, cIf, cIsi, cNeg, cNegM, cProp, cLenO, sRetN, sBk, sCt, sAsg, gT, gC, gN, g0, iD, iR1, iR2, avI, R.bind, R.bindT, R.bindA, R.bindS, R.bindR, RT.bind, RT.bindT, RT.bindS, RA.bind, RA.bindI, avD, bLen, bInt, bAbs, bGcd, bTup, bLst, truthD, kd, fz, ofR, canSet, isOwn, add_ii, sub_ii, lt_ii, le_ii, gt_ii, ge_ii, eq_ii, ne_ii, eqM_i, own_i, own_oo, eqX_i, List.lookup, Option.map, Option.bind, List.map_nil, List.map_cons, List.append_nil, List.nil_append, List.cons_append, List.getElem?_cons_zero, List.getElem?_cons_succ, List.set, List.nodup_nil, List.length_cons, List.length_nil, List.length_map, if_true, if_false, Bool.false_eq_true, reduceIte, Bool.not_true, Bool.not_false, Bool.and_true, Bool.and_false, Bool.true_and, Bool.false_and, Nat.reduceAdd, Nat.zero_le, Nat.reduceBEq, beq_self_eq_true, decide_true, decide_false]
theorem r_whole {a b : Int} : φ_Ratio_whole [.val (ob a b)] = .ok (.d (.bl (b == 1))) [] := by
  refine fnF_rt (e := [.val (ob a b)]) (e1 := [.val (ob a b)]) rfl rfl ?_ rfl
  unfold g_Ratio_whole
  simp only [sIf, cTr, cOp, two, ofOp, cV, cBi, cAd, cA0, cAs, cK, sRet, sRetO, cIx, cIxO, withO, sNx, sSet, sSetO, sDrop, cApp, cCall, callR, svs, slots, putA, setO, cMake, cMeth, cFld, cSfld, sFld0, cTup, cLst, cAnd, cOr, cNot, asB, cAndT, cOrT, cNotT, cIf, cIsi, cNeg, cNegM, cProp, cLenO, sRetN, sBk, sCt, sAsg, gT, gC, gN, g0, iD, iR1, iR2, avI, R.bind, R.bindT, R.bindA, R.bindS, R.bindR, RT.bind, RT.bindT, RT.bindS, RA.bind, RA.bindI, avD, bLen, bInt, bAbs, bGcd, bTup, bLst, truthD, kd, fz, ofR, canSet, isOwn, add_ii, sub_ii, lt_ii, le_ii, gt_ii, ge_ii, eq_ii, ne_ii, eqM_i, own_i, own_oo, eqX_i, List.lookup, Option.map, Option.bind, List.map_nil, List.map_cons, List.append_nil, List.nil_append, List.cons_append, List.getElem?_cons_zero, List.getElem?_cons_succ, List.set, List.nodup_nil, List.length_cons, List.length_nil, List.length_map, if_true, if_false, Bool.false_eq_true, reduceIte, Bool.not_true, Bool.not_false, Bool.and_true, Bool.and_false, Bool.true_and, Bool.false_and, Nat.reduceAdd, Nat.zero_le, Nat.reduceBEq, beq_self_eq_true, decide_true, decide_false]
/-! ### the law's own fractions -/
abbrev pr (n d : Int) : D := .tup [.int n, .int d]
theorem ix_p0 (n d : Int) : ixD (pr n d) (.int 0) = some (.int n) := rfl
theorem ix_p1 (n d : Int) : ixD (pr n d) (.int 1) = some (.int d) := rfl
theorem l_add {a b c d : Int} {p q : Nat} (hb : b ≠ 0) (hd : d ≠ 0) (ha : Bd p a) (hb' : Bd p b) (hc : Bd q c) (hd' : Bd q d) (l : p + q ≤ 99999998) : φ_law_add [.val (pr a b), .val (pr c d)] = .ok (.d (pr (nrN (a * d + c * b) (b * d)) (nrD (a * d + c * b) (b * d)))) [] := by
  refine fnF_rt (e := [.val (pr a b), .val (pr c d)]) (e1 := [.val (pr a b), .val (pr c d)]) rfl rfl ?_ rfl
  unfold g_law_add
  simp only [sIf, cTr, cOp, two, ofOp, cV, cBi, cAd, cA0, cAs, cK, sRet, sRetO, cIx, cIxO, withO, sNx, sSet, sSetO, sDrop, cApp, cCall, callR, svs, slots, putA, setO, cMake, cMeth, cFld, cSfld, sFld0, cTup, cLst, cAnd, cOr, cNot, asB, cAndT, cOrT, cNotT, cIf, cIsi, cNeg, cNegM, cProp, cLenO, sRetN, sBk, sCt, sAsg, gT, gC, gN, g0, iD, iR1, iR2, avI, R.bind, R.bindT, R.bindA, R.bindS, R.bindR, RT.bind, RT.bindT, RT.bindS, RA.bind, RA.bindI, avD, bLen, bInt, bAbs, bGcd, bTup, bLst, truthD, kd, fz, ofR, canSet, isOwn, add_ii, sub_ii, lt_ii, le_ii, gt_ii, ge_ii, eq_ii, ne_ii, eqM_i, own_i, own_oo, eqX_i, List.lookup, Option.map, Option.bind, List.map_nil, List.map_cons, List.append_nil, List.nil_append, List.cons_append, List.getElem?_cons_zero, List.getElem?_cons_succ, List.set, List.nodup_nil, List.length_cons, List.length_nil, List.length_map, if_true, if_false, Bool.false_eq_true, reduceIte, Bool.not_true, Bool.not_false, Bool.and_true, Bool.and_false, Bool.true_and, Bool.false_and, Nat.reduceAdd, Nat.zero_le, Nat.reduceBEq, beq_self_eq_true, decide_true, decide_false, ix_p0, ix_p1, mul_ii (ha.ok hd' l), mul_ii (hc.ok hb' (by omega)), mul_ii (hb'.ok hd' l), law_rat (Int.mul_ne_zero hb hd)]
theorem l_mul {a b c d : Int} {p q : Nat} (hb : b ≠ 0) (hd : d ≠ 0) (ha : Bd p a) (hb' : Bd p b) (hc : Bd q c) (hd' : Bd q d) (l : p + q ≤ 99999998) : φ_law_mul [.val (pr a b), .val (pr c d)] = .ok (.d (pr (nrN (a * c) (b * d)) (nrD (a * c) (b * d)))) [] := by
  refine fnF_rt (e := [.val (pr a b), .val (pr c d)]) (e1 := [.val (pr a b), .val (pr c d)]) rfl rfl ?_ rfl
  unfold g_law_mul
  simp only [sIf, cTr, cOp, two, ofOp, cV, cBi, cAd, cA0, cAs, cK, sRet, sRetO, cIx, cIxO, withO, sNx, sSet, sSetO, sDrop, cApp, cCall, callR, svs, slots, putA, setO, cMake, cMeth, cFld, cSfld, sFld0, cTup, cLst, cAnd, cOr, cNot, asB, cAndT, cOrT, cNotT, cIf, cIsi, cNeg, cNegM, cProp, cLenO, sRetN, sBk, sCt, sAsg, gT, gC, gN, g0, iD, iR1, iR2, avI, R.bind, R.bindT, R.bindA, R.bindS, R.bindR, RT.bind, RT.bindT, RT.bindS, RA.bind, RA.bindI, avD, bLen, bInt, bAbs, bGcd, bTup, bLst, truthD, kd, fz, ofR, canSet, isOwn, add_ii, sub_ii, lt_ii, le_ii, gt_ii, ge_ii, eq_ii, ne_ii, eqM_i, own_i, own_oo, eqX_i, List.lookup, Option.map, Option.bind, List.map_nil, List.map_cons, List.append_nil, List.nil_append, List.cons_append, List.getElem?_cons_zero, List.getElem?_cons_succ, List.set, List.nodup_nil, List.length_cons, List.length_nil, List.length_map, if_true, if_false, Bool.false_eq_true, reduceIte, Bool.not_true, Bool.not_false, Bool.and_true, Bool.and_false, Bool.true_and, Bool.false_and, Nat.reduceAdd, Nat.zero_le, Nat.reduceBEq, beq_self_eq_true, decide_true, decide_false, ix_p0, ix_p1, mul_ii (ha.ok hc l), mul_ii (hb'.ok hd' l), law_rat (Int.mul_ne_zero hb hd)]
theorem l_isint (a : Int) : φ_law_is_integer [.val (.int a)] = .ok (.d (.bl true)) [] := rfl
theorem l_pair {a b : Int} (hb : 0 < b) (g : Int.gcd a b = 1) : φ_law_pair [.val (ob a b)] = .ok (.d (pr a b)) [] := by
  refine fnF_rt (e := [.val (ob a b)]) (e1 := [.val (ob a b)]) rfl rfl ?_ rfl
  unfold g_law_pair
  have c1 : cOrT (cNotT (cTr (cIsi [(0, false), (1, false), (2, false), (3, false), (4, false), (5, false), (10 + 0, true)] (cV 0)))) (cOrT (cNotT (cTr (cCall φ_law_is_integer [] (cAd (cFld [(0, 0)] (cV 0)) (cA0))))) (cNotT (cTr (cCall φ_law_is_integer [] (cAd (cFld [(0, 1)] (cV 0)) (cA0)))))) [.val (ob a b)] = .ok false [.val (ob a b)] := rfl
  have c2 : cOrT (cTr (cOp (pLt) (cFld [(0, 1)] (cV 0)) (cK (.int 1)))) (cTr (cOp (pEq true) (cCall φ_law_gcd [] (cAd (cFld [(0, 0)] (cV 0)) (cAd (cFld [(0, 1)] (cV 0)) (cA0)))) (cK (.int 1)))) [.val (ob a b)] = .ok false [.val (ob a b)] := by
    have h1 : ¬ b < 1 := by omega
    have h2 : (((1 : Nat) : Int) == 1) = true := rfl
    simp only [sIf, cTr, cOp, two, ofOp, cV, cBi, cAd, cA0, cAs, cK, sRet, sRetO, cIx, cIxO, withO, sNx, sSet, sSetO, sDrop, cApp, cCall, callR, svs, slots, putA, setO, cMake, cMeth, cFld, cSfld, sFld0, cTup, cLst, cAnd, cOr, cNot, asB, cAndT, cOrT, cNotT, cIf, cIsi, cNeg, cNegM, cProp, cLenO, sRetN, sBk, sCt, sAsg, gT, gC, gN, g0, iD, iR1, iR2, avI, R.bind, R.bindT, R.bindA, R.bindS, R.bindR, RT.bind, RT.bindT, RT.bindS, RA.bind, RA.bindI, avD, bLen, bInt, bAbs, bGcd, bTup, bLst, truthD, kd, fz, ofR, canSet, isOwn, add_ii, sub_ii, lt_ii, le_ii, gt_ii, ge_ii, eq_ii, ne_ii, eqM_i, own_i, own_oo, eqX_i, List.lookup, Option.map, Option.bind, List.map_nil, List.map_cons, List.append_nil, List.nil_append, List.cons_append, List.getElem?_cons_zero, List.getElem?_cons_succ, List.set, List.nodup_nil, List.length_cons, List.length_nil, List.length_map, if_true, if_false, Bool.false_eq_true, reduceIte, Bool.not_true, Bool.not_false, Bool.and_true, Bool.and_false, Bool.true_and, Bool.false_and, Nat.reduceAdd, Nat.zero_le, Nat.reduceBEq, beq_self_eq_true, decide_true, decide_false, h1, law_gcd, g, h2]
  rw [seq_nx (if_fn c1), seq_nx (if_fn c2)]
  rfl
end L2.S.W

set_option Elab.async false
set_option linter.all false
set_option maxRecDepth 100000
set_option maxHeartbeats 8000000
namespace L2.S.W
open PySem PySem.Spec PyProof.Rows L2 L2.S
/-- x / y in lowest terms is n / d, of less than p bits -/
structure G (p : Nat) (x y n d : Int) : Prop where
  pos : 0 < y
  low : Int.gcd x y = 1
  rep : x * d = n * y
  bx : Bd p x
  bY : Bd p y
theorem G.ne {p : Nat} {x y n d : Int} (g : G p x y n d) : y ≠ 0 := by have := g.pos; omega
theorem G.mono {p q : Nat} {x y n d : Int} (g : G p x y n d) (h : p ≤ q) : G q x y n d := ⟨g.pos, g.low, g.rep, g.bx.mono h, g.bY.mono h⟩
theorem G.uniq {p q : Nat} {x y n d x' y' n' d' : Int} (g : G p x y n d) (g' : G q x' y' n' d') (hd : d ≠ 0) (hd' : d' ≠ 0) (e : n * d' = n' * d) : x = x' ∧ y = y' := by
  refine low_eq g.pos g'.pos g.low g'.low ?_
  have h1 := g.rep
  have h2 := g'.rep
  have hdd : d * d' ≠ 0 := Int.mul_ne_zero hd hd'
  refine Int.eq_of_mul_eq_mul_right hdd ?_
  grind
theorem G.nr {p : Nat} {n d : Int} (hd : d ≠ 0) (hn : Bd p n) (hb : Bd p d) : G p (nrN n d) (nrD n d) n d := ⟨nrD_pos hd, nr_gcd hd, nr_cross n d, hn.nrN hd, hb.nrD hd⟩
theorem G.rep2 {p : Nat} {x y n d n' d' : Int} (g : G p x y n d) (hd : d ≠ 0) (e : n * d' = n' * d) : G p x y n' d' := by
  refine ⟨g.pos, g.low, ?_, g.bx, g.bY⟩
  have h1 := g.rep
  refine Int.eq_of_mul_eq_mul_right hd ?_
  grind
theorem addG {p q : Nat} {x1 x2 y1 y2 n d n' d' : Int} (g : G p x1 x2 n d) (h : G q y1 y2 n' d') : G (p + q + 1) (nrN (x1 * y2 + y1 * x2) (x2 * y2)) (nrD (x1 * y2 + y1 * x2) (x2 * y2)) (n * d' + n' * d) (d * d') := by
  have hD := Int.mul_ne_zero g.ne h.ne
  have g0 : G (p + q + 1) _ _ (x1 * y2 + y1 * x2) (x2 * y2) := G.nr hD ((g.bx.mul h.bY).add ((h.bx.mul g.bY).mono (by omega))) ((g.bY.mul h.bY).mono (by omega))
  refine g0.rep2 hD ?_
  have h1 := g.rep
  have h2 := h.rep
  grind
theorem mulG {p q : Nat} {x1 x2 y1 y2 n d n' d' : Int} (g : G p x1 x2 n d) (h : G q y1 y2 n' d') : G (p + q) (nrN (x1 * y1) (x2 * y2)) (nrD (x1 * y1) (x2 * y2)) (n * n') (d * d') := by
  have hD := Int.mul_ne_zero g.ne h.ne
  have g0 : G (p + q) _ _ (x1 * y1) (x2 * y2) := G.nr hD (g.bx.mul h.bx) (g.bY.mul h.bY)
  refine g0.rep2 hD ?_
  have h1 := g.rep
  have h2 := h.rep
  grind
theorem negG {p : Nat} {x1 x2 n d : Int} (g : G p x1 x2 n d) : G p (nrN (-x1) x2) (nrD (-x1) x2) (-n) d := by
  have g0 : G p _ _ (-x1) x2 := G.nr g.ne g.bx.neg g.bY
  refine g0.rep2 g.ne ?_
  have h1 := g.rep
  grind
theorem neg_low {p : Nat} {x1 x2 n d : Int} (g : G p x1 x2 n d) : G p (-x1) x2 (-n) d := ⟨g.pos, by rw [Int.neg_gcd]; exact g.low, by have := g.rep; grind, g.bx.neg, g.bY⟩
theorem gself {p : Nat} {a b : Int} (h : 0 < b) (g : Int.gcd a b = 1) (ha : Bd p a) (hb : Bd p b) : G p a b a b := ⟨h, g, rfl, ha, hb⟩
theorem g01 : G 1 0 1 0 1 := ⟨by decide, by decide, rfl, Bd.zero, Bd.one⟩
theorem g11 : G 1 1 1 1 1 := ⟨by decide, by decide, rfl, Bd.one, Bd.one⟩
theorem gr_add {p q : Nat} {x1 x2 y1 y2 n d n' d' : Int} (g : G p x1 x2 n d) (h : G q y1 y2 n' d') (l : p + q ≤ 99999998) : φ_Ratio_add [.val (ob x1 x2), .val (ob y1 y2)] = .ok (.d (ob (nrN (x1 * y2 + y1 * x2) (x2 * y2)) (nrD (x1 * y2 + y1 * x2) (x2 * y2)))) [] := r_add g.ne h.ne g.bx g.bY h.bx h.bY l
/-- total of four -/
theorem own_add (x y : D) (c : Nat) (xs ys : List D) (z : D) (E : Env') (h : φ_Ratio_add [.val (.obj 0 xs), .val (.obj 0 ys)] = .ok (.d z) []) : pOwn ((0, φ_Ratio_add) :: []) pAdd (.obj 0 xs) (.obj 0 ys) E = .ok (.d z) E := by
  rw [own_oo]
  exact call_2 h
theorem tot_step {p q : Nat} {x1 x2 y1 y2 n d n' d' : Int} (L : D) (z : SV) (hz : Fr1 z) (g : G p x1 x2 n d) (h : G q y1 y2 n' d') (l : p + q ≤ 99999998) :
    ∃ r s, (∃ e1, gN 2 (ob y1 y2) [.val L, .val (ob x1 x2), z] = some e1 ∧ sSet 1 (two (pOwn ((0, φ_Ratio_add) :: []) pAdd) (cV 1) (cV 2)) e1 = .nx [.val L, .val (ob r s), .val (ob y1 y2)]) ∧ G (p + q + 1) r s (n * d' + n' * d) (d * d') := by
  refine ⟨_, _, ⟨_, gN_at (hz.can rfl), ?_⟩, addG g h⟩
  have q1 := gr_add g h l
  have q2 := own_add (ob x1 x2) (ob y1 y2) 0 _ _ _ [.val L, .val (ob x1 x2), .val (ob y1 y2)] q1
  show sSet 1 _ [.val L, .val (ob x1 x2), .val (ob y1 y2)] = _
  unfold sSet two
  rw [show cV 1 [.val L, .val (ob x1 x2), .val (ob y1 y2)] = .ok (.d (ob x1 x2)) [.val L, .val (ob x1 x2), .val (ob y1 y2)] from rfl]
  dsimp only [R.bind]
  rw [show cV 2 [.val L, .val (ob x1 x2), .val (ob y1 y2)] = .ok (.d (ob y1 y2)) [.val L, .val (ob x1 x2), .val (ob y1 y2)] from rfl]
  dsimp only
  rw [q2]
  rfl
theorem forL_cons {h : D → Env' → Option Env'} {t : Env' → RS} {d : D} {ds : List D} {e e1 e2 : Env'} (h1 : h d e = some e1) (h2 : t e1 = .nx e2) : forL h t (d :: ds) e = forL h t ds e2 := by
  conv => lhs; unfold forL
  rw [h1]
  dsimp only
  rw [h2]
theorem r_total4 {p : Nat} {a b n d u v w x c f g k : Int} (A : G p a b n d) (B : G p u v w x) (C : G p c f g k) (l : p ≤ 9000000) (p1 : 1 ≤ p) :
    ∃ r s, φ_total [.val (.lst [ob a b, ob u v, ob a b, ob c f])] = .ok (.d (ob r s)) [] ∧ G (5 * p + 10) r s ((((0 * d + n * 1) * x + w * (1 * d)) * d + n * (1 * d * x)) * k + g * (1 * d * x * d)) (1 * d * x * d * k) := by
  have s0 : startE [.val (.lst [ob a b, ob u v, ob a b, ob c f])] 3 = [.val (.lst [ob a b, ob u v, ob a b, ob c f]), .un, .un] := rfl
  obtain ⟨L, hL⟩ : ∃ L, L = D.lst [ob a b, ob u v, ob a b, ob c f] := ⟨_, rfl⟩
  have e1 : sSet 1 (cMake 0 2 φ_Ratio_init [(.int 1)] (cAd (cK (.int 0)) (cA0))) [.val L, .un, .un] = .nx [.val L, .val (ob (nrN 0 1) (nrD 0 1)), .un] := by
    simp only [sIf, cTr, cOp, two, ofOp, cV, cBi, cAd, cA0, cAs, cK, sRet, sRetO, cIx, cIxO, withO, sNx, sSet, sSetO, sDrop, cApp, cCall, callR, svs, slots, putA, setO, cMake, cMeth, cFld, cSfld, sFld0, cTup, cLst, cAnd, cOr, cNot, asB, cAndT, cOrT, cNotT, cIf, cIsi, cNeg, cNegM, cProp, cLenO, sRetN, sBk, sCt, sAsg, gT, gC, gN, g0, iD, iR1, iR2, avI, R.bind, R.bindT, R.bindA, R.bindS, R.bindR, RT.bind, RT.bindT, RT.bindS, RA.bind, RA.bindI, avD, bLen, bInt, bAbs, bGcd, bTup, bLst, truthD, kd, fz, ofR, canSet, isOwn, add_ii, sub_ii, lt_ii, le_ii, gt_ii, ge_ii, eq_ii, ne_ii, eqM_i, own_i, own_oo, eqX_i, List.lookup, Option.map, Option.bind, List.map_nil, List.map_cons, List.append_nil, List.nil_append, List.cons_append, List.getElem?_cons_zero, List.getElem?_cons_succ, List.set, List.nodup_nil, List.length_cons, List.length_nil, List.length_map, if_true, if_false, Bool.false_eq_true, reduceIte, Bool.not_true, Bool.not_false, Bool.and_true, Bool.and_false, Bool.true_and, Bool.false_and, Nat.reduceAdd, Nat.zero_le, Nat.reduceBEq, beq_self_eq_true, decide_true, decide_false, mk_2]
  have z0 : G 1 (nrN 0 1) (nrD 0 1) 0 1 := G.nr (by decide) Bd.zero Bd.one
  obtain ⟨r1, s1, ⟨e2, k1, k2⟩, g1⟩ := tot_step L .un .un z0 A (by omega)
  obtain ⟨r2, s2, ⟨e3, k3, k4⟩, g2⟩ := tot_step L _ .val g1 B (by omega)
  obtain ⟨r3, s3, ⟨e4, k5, k6⟩, g3⟩ := tot_step L _ .val g2 A (by omega)
  obtain ⟨r4, s4, ⟨e5, k7, k8⟩, g4⟩ := tot_step L _ .val g3 C (by omega)
  refine ⟨r4, s4, fnF_rt rfl s0 (e1 := [.val L, .val (ob r4 s4), .val (ob c f)]) ?_ rfl, g4.mono (by omega)⟩
  unfold g_total
  rw [← hL]
  rw [seq_nx e1]
  have fr : sFor (iD (cV 0)) (gN 2) (sSet 1 (two (pOwn ((0, φ_Ratio_add) :: []) pAdd) (cV 1) (cV 2))) [.val L, .val (ob (nrN 0 1) (nrD 0 1)), .un] = .nx [.val L, .val (ob r4 s4), .val (ob c f)] := by
    have hi : iD (cV 0) [.val L, .val (ob (nrN 0 1) (nrD 0 1)), .un] = .ok [ob a b, ob u v, ob a b, ob c f] [.val L, .val (ob (nrN 0 1) (nrD 0 1)), .un] := by
      subst hL; rfl
    unfold sFor
    rw [hi]
    dsimp only
    rw [forL_cons k1 k2, forL_cons k3 k4, forL_cons k5 k6, forL_cons k7 k8]
    rfl
  rw [seq_nx fr]
  rfl
theorem r_total0 : φ_total [.val (.tup [])] = .ok (.d (ob (nrN 0 1) (nrD 0 1))) [] := by
  have s0 : startE [.val (.tup [])] 3 = [.val (.tup []), .un, .un] := rfl
  have e1 : sSet 1 (cMake 0 2 φ_Ratio_init [(.int 1)] (cAd (cK (.int 0)) (cA0))) [.val (.tup []), .un, .un] = .nx [.val (.tup []), .val (ob (nrN 0 1) (nrD 0 1)), .un] := by
    simp only [sIf, cTr, cOp, two, ofOp, cV, cBi, cAd, cA0, cAs, cK, sRet, sRetO, cIx, cIxO, withO, sNx, sSet, sSetO, sDrop, cApp, cCall, callR, svs, slots, putA, setO, cMake, cMeth, cFld, cSfld, sFld0, cTup, cLst, cAnd, cOr, cNot, asB, cAndT, cOrT, cNotT, cIf, cIsi, cNeg, cNegM, cProp, cLenO, sRetN, sBk, sCt, sAsg, gT, gC, gN, g0, iD, iR1, iR2, avI, R.bind, R.bindT, R.bindA, R.bindS, R.bindR, RT.bind, RT.bindT, RT.bindS, RA.bind, RA.bindI, avD, bLen, bInt, bAbs, bGcd, bTup, bLst, truthD, kd, fz, ofR, canSet, isOwn, add_ii, sub_ii, lt_ii, le_ii, gt_ii, ge_ii, eq_ii, ne_ii, eqM_i, own_i, own_oo, eqX_i, List.lookup, Option.map, Option.bind, List.map_nil, List.map_cons, List.append_nil, List.nil_append, List.cons_append, List.getElem?_cons_zero, List.getElem?_cons_succ, List.set, List.nodup_nil, List.length_cons, List.length_nil, List.length_map, if_true, if_false, Bool.false_eq_true, reduceIte, Bool.not_true, Bool.not_false, Bool.and_true, Bool.and_false, Bool.true_and, Bool.false_and, Nat.reduceAdd, Nat.zero_le, Nat.reduceBEq, beq_self_eq_true, decide_true, decide_false, mk_2]
  refine fnF_rt rfl s0 (e1 := [.val (.tup []), .val (ob (nrN 0 1) (nrD 0 1)), .un]) ?_ rfl
  unfold g_total
  rw [seq_nx e1]
  rfl
end L2.S.W

set_option Elab.async false
set_option linter.all false
set_option maxRecDepth 100000
set_option maxHeartbeats 8000000
namespace L2.S.W
open PySem PySem.Spec PyProof.Rows L2 L2.S
theorem lm_G {p q : Nat} {x1 x2 y1 y2 n d n' d' : Int} (g : G p x1 x2 n d) (h : G q y1 y2 n' d') (l : p + q ≤ 99999998) :
    ∃ r s, φ_law_mul [.val (pr x1 x2), .val (pr y1 y2)] = .ok (.d (pr r s)) [] ∧ G (p + q) r s (n * n') (d * d') := ⟨_, _, l_mul g.ne h.ne g.bx g.bY h.bx h.bY l, mulG g h⟩
theorem la_G {p q : Nat} {x1 x2 y1 y2 n d n' d' : Int} (g : G p x1 x2 n d) (h : G q y1 y2 n' d') (l : p + q ≤ 99999998) :
    ∃ r s, φ_law_add [.val (pr x1 x2), .val (pr y1 y2)] = .ok (.d (pr r s)) [] ∧ G (p + q + 1) r s (n * d' + n' * d) (d * d') := ⟨_, _, l_add g.ne h.ne g.bx g.bY h.bx h.bY l, addG g h⟩
/-- the loop of the law's power -/
theorem lp_loop {a b k : Int} {p j : Nat} (g : G p a b a b) (hj : j ≤ 5) (hk : (if k < 0 then -k else k) = (j : Int)) (l : p ≤ 9000000) :
    ∃ r s x, sFor (iR1 (cAd (cBi bAbs (cAd (cV 1) (cA0))) (cA0))) (gN 3) (sSet 2 (cCall φ_law_mul [] (cAd (cV 2) (cAd (cV 0) (cA0))))) [.val (pr a b), .val (.int k), .val (pr 1 1), .un] = .nx [.val (pr a b), .val (.int k), .val (pr r s), x] ∧ G (p * j + 1) r s (a ^ j) (b ^ j) := by
  obtain ⟨e', h1, h2⟩ := for_run (f := iR1 (cAd (cBi bAbs (cAd (cV 1) (cA0))) (cA0))) (h := gN 3) (t := sSet 2 (cCall φ_law_mul [] (cAd (cV 2) (cAd (cV 0) (cA0))))) (env := [.val (pr a b), .val (.int k), .val (pr 1 1), .un])
    (fun i e => ∃ r s x, e = [.val (pr a b), .val (.int k), .val (pr r s), x] ∧ Fr1 x ∧ G (p * i + 1) r s (a ^ i) (b ^ i))
    (iR1_at (n := j) (by simp only [sIf, cTr, cOp, two, ofOp, cV, cBi, cAd, cA0, cAs, cK, sRet, sRetO, cIx, cIxO, withO, sNx, sSet, sSetO, sDrop, cApp, cCall, callR, svs, slots, putA, setO, cMake, cMeth, cFld, cSfld, sFld0, cTup, cLst, cAnd, cOr, cNot, asB, cAndT, cOrT, cNotT, cIf, cIsi, cNeg, cNegM, cProp, cLenO, sRetN, sBk, sCt, sAsg, gT, gC, gN, g0, iD, iR1, iR2, avI, R.bind, R.bindT, R.bindA, R.bindS, R.bindR, RT.bind, RT.bindT, RT.bindS, RA.bind, RA.bindI, avD, bLen, bInt, bAbs, bGcd, bTup, bLst, truthD, kd, fz, ofR, canSet, isOwn, add_ii, sub_ii, lt_ii, le_ii, gt_ii, ge_ii, eq_ii, ne_ii, eqM_i, own_i, own_oo, eqX_i, List.lookup, Option.map, Option.bind, List.map_nil, List.map_cons, List.append_nil, List.nil_append, List.cons_append, List.getElem?_cons_zero, List.getElem?_cons_succ, List.set, List.nodup_nil, List.length_cons, List.length_nil, List.length_map, if_true, if_false, Bool.false_eq_true, reduceIte, Bool.not_true, Bool.not_false, Bool.and_true, Bool.and_false, Bool.true_and, Bool.false_and, Nat.reduceAdd, Nat.zero_le, Nat.reduceBEq, beq_self_eq_true, decide_true, decide_false, hk]) (by omega)) ⟨1, 1, .un, rfl, .un, by rw [Int.pow_zero, Int.pow_zero]; exact g11.mono (by omega)⟩ (by
      rintro i d e hd ⟨r, s, x, rfl, hx, gi⟩
      obtain ⟨hi, rfl⟩ := rng_get hd
      have lp : p * i + 1 + p ≤ 99999998 := by
        have : p * i ≤ 9000000 * 5 := Nat.mul_le_mul l (by omega)
        omega
      obtain ⟨r', s', h, g'⟩ := lm_G gi g lp
      refine ⟨_, gN_at (hx.can rfl), [.val (pr a b), .val (.int k), .val (pr r' s'), .val (.int i)], .inl ?_, r', s', _, rfl, .val, ?_⟩
      · have q : cCall φ_law_mul [] (cAd (cV 2) (cAd (cV 0) (cA0))) [.val (pr a b), .val (.int k), .val (pr r s), .val (.int i)] = .ok (.d (pr r' s')) [.val (pr a b), .val (.int k), .val (pr r s), .val (.int i)] := call_at rfl (call_2 h)
        show sSet 2 _ [.val (pr a b), .val (.int k), .val (pr r s), .val (.int i)] = _
        unfold sSet
        rw [q]
        rfl
      · rw [Int.pow_succ, Int.pow_succ, show p * (i + 1) + 1 = p * i + 1 + p by rw [Nat.mul_succ]; omega]
        exact g')
  obtain ⟨r, s, x, rfl, hx, gj⟩ := h2
  rw [List.length_map, List.length_range] at gj
  exact ⟨r, s, x, h1, gj⟩
theorem l_pow {a b : Int} {p j : Nat} (g : G p a b a b) (hj : j ≤ 5) (l : p ≤ 9000000) : ∃ r s, φ_law_power [.val (pr a b), .val (.int (j : Int))] = .ok (.d (pr r s)) [] ∧ G (p * j + 1) r s (a ^ j) (b ^ j) := by
  have hn : ¬ ((j : Int) < 0) := by omega
  obtain ⟨r, s, x, h, gj⟩ := lp_loop (k := (j : Int)) g hj (if_neg hn) l
  have s0 : startE [.val (pr a b), .val (.int (j : Int))] 4 = [.val (pr a b), .val (.int (j : Int)), .un, .un] := rfl
  have e1 : sSet 2 (cTup (cAd (cK (.int 1)) (cAd (cK (.int 1)) (cA0)))) [.val (pr a b), .val (.int (j : Int)), .un, .un] = .nx [.val (pr a b), .val (.int (j : Int)), .val (pr 1 1), .un] := rfl
  have c1 : cTr (cOp (pLt) (cV 1) (cK (.int 0))) [.val (pr a b), .val (.int (j : Int)), .val (pr r s), x] = .ok false [.val (pr a b), .val (.int (j : Int)), .val (pr r s), x] := by
    simp only [sIf, cTr, cOp, two, ofOp, cV, cBi, cAd, cA0, cAs, cK, sRet, sRetO, cIx, cIxO, withO, sNx, sSet, sSetO, sDrop, cApp, cCall, callR, svs, slots, putA, setO, cMake, cMeth, cFld, cSfld, sFld0, cTup, cLst, cAnd, cOr, cNot, asB, cAndT, cOrT, cNotT, cIf, cIsi, cNeg, cNegM, cProp, cLenO, sRetN, sBk, sCt, sAsg, gT, gC, gN, g0, iD, iR1, iR2, avI, R.bind, R.bindT, R.bindA, R.bindS, R.bindR, RT.bind, RT.bindT, RT.bindS, RA.bind, RA.bindI, avD, bLen, bInt, bAbs, bGcd, bTup, bLst, truthD, kd, fz, ofR, canSet, isOwn, add_ii, sub_ii, lt_ii, le_ii, gt_ii, ge_ii, eq_ii, ne_ii, eqM_i, own_i, own_oo, eqX_i, List.lookup, Option.map, Option.bind, List.map_nil, List.map_cons, List.append_nil, List.nil_append, List.cons_append, List.getElem?_cons_zero, List.getElem?_cons_succ, List.set, List.nodup_nil, List.length_cons, List.length_nil, List.length_map, if_true, if_false, Bool.false_eq_true, reduceIte, Bool.not_true, Bool.not_false, Bool.and_true, Bool.and_false, Bool.true_and, Bool.false_and, Nat.reduceAdd, Nat.zero_le, Nat.reduceBEq, beq_self_eq_true, decide_true, decide_false, hn]
  refine ⟨r, s, fnF_rt rfl s0 (e1 := [.val (pr a b), .val (.int (j : Int)), .val (pr r s), x]) ?_ rfl, gj⟩
  unfold g_law_power
  rw [seq_nx e1, seq_nx h, seq_nx (if_fn c1)]
  rfl
theorem pow_pos' {b : Int} (h : 0 < b) (j : Nat) : 0 < b ^ j := Int.pow_pos h
theorem l_pown {a b : Int} {p j : Nat} (g : G p a b a b) (ha : a ≠ 0) (hj : j ≤ 5) (h0 : 0 < j) (l : p ≤ 9000000) : ∃ r s, φ_law_power [.val (pr a b), .val (.int (-(j : Int)))] = .ok (.d (pr r s)) [] ∧ G (p * j + 1) r s (b ^ j) (a ^ j) := by
  have hn : -(j : Int) < 0 := by omega
  obtain ⟨r, s, x, h, gj⟩ := lp_loop (k := -(j : Int)) g hj (by rw [if_pos hn, Int.neg_neg]) l
  have s0 : startE [.val (pr a b), .val (.int (-(j : Int)))] 4 = [.val (pr a b), .val (.int (-(j : Int))), .un, .un] := rfl
  have e1 : sSet 2 (cTup (cAd (cK (.int 1)) (cAd (cK (.int 1)) (cA0)))) [.val (pr a b), .val (.int (-(j : Int))), .un, .un] = .nx [.val (pr a b), .val (.int (-(j : Int))), .val (pr 1 1), .un] := rfl
  have c1 : cTr (cOp (pLt) (cV 1) (cK (.int 0))) [.val (pr a b), .val (.int (-(j : Int))), .val (pr r s), x] = .ok true [.val (pr a b), .val (.int (-(j : Int))), .val (pr r s), x] := by
    simp only [sIf, cTr, cOp, two, ofOp, cV, cBi, cAd, cA0, cAs, cK, sRet, sRetO, cIx, cIxO, withO, sNx, sSet, sSetO, sDrop, cApp, cCall, callR, svs, slots, putA, setO, cMake, cMeth, cFld, cSfld, sFld0, cTup, cLst, cAnd, cOr, cNot, asB, cAndT, cOrT, cNotT, cIf, cIsi, cNeg, cNegM, cProp, cLenO, sRetN, sBk, sCt, sAsg, gT, gC, gN, g0, iD, iR1, iR2, avI, R.bind, R.bindT, R.bindA, R.bindS, R.bindR, RT.bind, RT.bindT, RT.bindS, RA.bind, RA.bindI, avD, bLen, bInt, bAbs, bGcd, bTup, bLst, truthD, kd, fz, ofR, canSet, isOwn, add_ii, sub_ii, lt_ii, le_ii, gt_ii, ge_ii, eq_ii, ne_ii, eqM_i, own_i, own_oo, eqX_i, List.lookup, Option.map, Option.bind, List.map_nil, List.map_cons, List.append_nil, List.nil_append, List.cons_append, List.getElem?_cons_zero, List.getElem?_cons_succ, List.set, List.nodup_nil, List.length_cons, List.length_nil, List.length_map, if_true, if_false, Bool.false_eq_true, reduceIte, Bool.not_true, Bool.not_false, Bool.and_true, Bool.and_false, Bool.true_and, Bool.false_and, Nat.reduceAdd, Nat.zero_le, Nat.reduceBEq, beq_self_eq_true, decide_true, decide_false, hn]
  have rep := gj.rep
  have sp := gj.pos
  have ap : a ^ j ≠ 0 := Int.pow_ne_zero ha
  have r0 : r ≠ 0 := fun z => by
    rw [z, Int.zero_mul] at rep
    exact Int.mul_ne_zero ap (by omega) rep.symm
  have gr : G (p * j + 1) (nrN s r) (nrD s r) s r := G.nr r0 gj.bY gj.bx
  refine ⟨_, _, fnF_rt rfl s0 (e1 := [.val (pr a b), .val (.int (-(j : Int))), .val (pr r s), x]) ?_ rfl, gr.rep2 r0 (by grind)⟩
  unfold g_law_power
  rw [seq_nx e1, seq_nx h]
  refine seq_rt ((if_t c1).trans (ret_at (call_at (e1 := [.val (pr a b), .val (.int (-(j : Int))), .val (pr r s), x]) (as := [.d (.int s), .d (.int r)]) rfl (call_2 (law_rat r0)))))
/-! ### no inverse of 0 -/
theorem try_1 {t u : Env' → RS} {e e1 e2 : Env'} (h1 : t e = .ex ⟨1, []⟩ e1) (h2 : u e1 = .nx e2) : sTry [(0, false), (1, true)] t u e = .nx e2 := by
  unfold sTry
  rw [h1]
  show (match u e1 with | .ex _ _ => RS.no | r => r) = _
  rw [h2]
theorem n01 : nrN 0 1 = 0 ∧ nrD 0 1 = 1 := by decide
theorem callx_1 {φ : Fn} {x : D} {r : Ex} {e : Env'} (q : φ [.val x] = .ex r []) : callR φ [] [.d x] e = .ex r e := by
  show (if ([] : List Nat).Nodup then (match φ [.val x] with | .ok r outs => R.ok r (putA 0 e outs [.d x]) | .ex x outs => .ex x (putA 0 e outs [.d _]) | .no => .no) else .no) = _
  rw [if_pos List.nodup_nil, q]
  rfl
theorem callx_2 {φ : Fn} {x y : D} {r : Ex} {e : Env'} (q : φ [.val x, .val y] = .ex r []) : callR φ [] [.d x, .d y] e = .ex r e := by
  show (if ([] : List Nat).Nodup then (match φ [.val x, .val y] with | .ok r outs => R.ok r (putA 0 e outs [.d x, .d y]) | .ex x outs => .ex x (putA 0 e outs [.d _, .d _]) | .no => .no) else .no) = _
  rw [if_pos List.nodup_nil, q]
  rfl
theorem drop_ex {f : Env' → R} {e e1 : Env'} {x : Ex} (h : f e = .ex x e1) : sDrop f e = .ex x e1 := by unfold sDrop; rw [h]; rfl
theorem mk_zero (e : Env') : cMake 0 2 φ_Ratio_init [(.int 1)] (cAd (cK (.int 0)) (cA0)) e = .ok (.d (ob 0 1)) e := by
  have := mk_2 0 e
  rw [n01.1, n01.2] at this
  exact this
theorem l_noinv {a b : Int} {p : Nat} (g : G p a b a b) (l : p ≤ 9000000) : φ_law_no_inverse [.val (ob a b)] = .ok (.d (.bl true)) [] := by
  have s0 : startE [.val (ob a b)] 2 = [.val (ob a b), .un] := rfl
  have e1 : sSet 1 (cK (.int 0)) [.val (ob a b), .un] = .nx [.val (ob a b), .val (.int 0)] := rfl
  have t1 : sTry [(0, false), (1, true)] (sDrop (cMeth 0 φ_Ratio_inverse [] (cMake 0 2 φ_Ratio_init [(.int 1)] (cAd (cK (.int 0)) (cA0))) cA0)) (sSet 1 (cOp pAdd (cV 1) (cK (.int 1)))) [.val (ob a b), .val (.int 0)] = .nx [.val (ob a b), .val (.int 1)] :=
    try_1 (drop_ex (meth_at (mk_zero _) rfl (callx_1 (r_inv0 1)))) rfl
  have t2 : sTry [(0, false), (1, true)] (sDrop (cMeth 0 φ_Ratio_over [] (cV 0) (cAd (cMake 0 2 φ_Ratio_init [(.int 1)] (cAd (cK (.int 0)) (cA0))) (cA0)))) (sSet 1 (cOp pAdd (cV 1) (cK (.int 1)))) [.val (ob a b), .val (.int 1)] = .nx [.val (ob a b), .val (.int 2)] :=
    try_1 (drop_ex (meth_at (e1 := [.val (ob a b), .val (.int 1)]) rfl (ad_at (mk_zero _) rfl) (callx_2 (r_over0 g.bx g.bY Bd.one (by omega) (by omega))))) rfl
  have t3 : sTry [(0, false), (1, true)] (sDrop (cMeth 0 φ_Ratio_power [] (cMake 0 2 φ_Ratio_init [(.int 1)] (cAd (cK (.int 0)) (cA0))) (cAd (cOp pSubI (cNeg (cK (.int 1))) (cV 1)) (cA0)))) (sSet 1 (cOp pAdd (cV 1) (cK (.int 1)))) [.val (ob a b), .val (.int 2)] = .nx [.val (ob a b), .val (.int 3)] :=
    try_1 (drop_ex (meth_at (mk_zero _) (as := [.d (.int (-((3 : Nat) : Int)))]) rfl (callx_2 (r_pow0 (by decide))))) rfl
  refine fnF_rt rfl s0 (e1 := [.val (ob a b), .val (.int 3)]) ?_ rfl
  unfold g_law_no_inverse
  rw [seq_nx e1, seq_nx t1, seq_nx t2, seq_nx t3]
  rfl
/-! ### honest -/
theorem l_odd (a b : Int) : φ_law_odd [.val (ob a b)] = .ok (.d (.bl false)) [] := rfl
theorem l_honest (a b : Int) : φ_law_honest [.val (ob a b)] = .ok (.d (ob a b)) [] := rfl
end L2.S.W

set_option Elab.async false
set_option linter.all false
set_option maxRecDepth 100000
set_option maxHeartbeats 8000000
namespace L2.S.W
open PySem PySem.Spec PyProof.Rows L2 L2.S
theorem set_at {i : Nat} {f : Env' → R} {e e1 : Env'} {d : D} (h : f e = .ok (.d d) e1) (c : canSet e1 i = true) : sSet i f e = .nx (e1.set i (.val d)) := by
  unfold sSet
  rw [h]
  show (if canSet e1 i = true then RS.nx (e1.set i (.val d)) else .no) = _
  rw [if_pos c]
theorem set_atL {i : Nat} {f : Env' → R} {e e1 : Env'} {xs : List D} (h : f e = .ok (.o (.l xs)) e1) (c : canSet e1 i = true) : sSet i f e = .nx (e1.set i (.val (.lst xs))) := by
  unfold sSet
  rw [h]
  show (if canSet e1 i = true then RS.nx (e1.set i (.val (.lst xs))) else .no) = _
  rw [if_pos c]
theorem ix_at {f g : Env' → R} {e e1 e2 : Env'} {x y d : D} (h1 : f e = .ok (.d x) e1) (h2 : g e1 = .ok (.d y) e2) (h3 : ixD x y = some d) : cIx f g e = .ok (.d d) e2 := by
  unfold cIx two
  rw [h1]
  show (g e1).bind _ = _
  rw [h2]
  show (match ixD x y with | some d => R.ok (.d d) e2 | none => .no) = _
  rw [h3]
theorem ix_atL {f g : Env' → R} {e e1 e2 : Env'} {xs : List D} {y d : D} (h1 : f e = .ok (.o (.l xs)) e1) (h2 : g e1 = .ok (.d y) e2) (h3 : ixD (.lst xs) y = some d) : cIx f g e = .ok (.d d) e2 := by
  unfold cIx two
  rw [h1]
  show (g e1).bind _ = _
  rw [h2]
  show (match ixD (.lst xs) y with | some d => R.ok (.d d) e2 | none => .no) = _
  rw [h3]
theorem op_at {p : D → D → Option RV} {f g : Env' → R} {e e1 e2 : Env'} {x y : D} {r : RV} (h1 : f e = .ok (.d x) e1) (h2 : g e1 = .ok (.d y) e2) (h3 : p x y = some r) : cOp p f g e = .ok r e2 := by
  unfold cOp two
  rw [h1]
  show (g e1).bind _ = _
  rw [h2]
  show ofOp p x y e2 = _
  unfold ofOp
  rw [h3]
theorem ix_lsI {rs : List Int} {k : Nat} (h : k < rs.length) : ixD (.lst (lsI rs)) (.int (k : Int)) = some (.int rs[k]) := ix_lI rs k h
theorem l_drawn {ns : List Int} {k : Nat} (hk : k < 1000) (hb : ∀ z ∈ ns, Builtin.Int.intBits z ≤ 1048576) :
    ∃ a b, φ_law_drawn [.val (.ro (ns.map D.int)), .val (.int (k : Int))] = .ok (.d (pr a b)) [] ∧ G 1048576 a b a b := by
  obtain ⟨rs, hd, hl, hr⟩ := law_draws (ns := ns) (k := k) (count := 4) (bound := 121) hk (by decide) (by decide)
  obtain ⟨S, hS⟩ : ∃ S, S = D.ro (ns.map D.int) := ⟨_, rfl⟩
  rw [← hS] at hd ⊢
  have s0 : startE [.val S, .val (.int (k : Int))] 4 = [.val S, .val (.int (k : Int)), .un, .un] := rfl
  have e1 : sSet 2 (cCall φ_law_draws [] (cAd (cV 0) (cAd (cV 1) (cAd (cK (.int 4)) (cAd (cK (.int 121)) (cA0)))))) [.val S, .val (.int (k : Int)), .un, .un] = .nx [.val S, .val (.int (k : Int)), .val (.lst (lsI rs)), .un] :=
    set_atL (call_at (e1 := [.val S, .val (.int (k : Int)), .un, .un]) (as := [.d S, .d (.int k), .d (.int 4), .d (.int 121)]) rfl (call_4 hd)) rfl
  have i0 := ix_lsI (rs := rs) (k := 0) (by omega)
  have i1 := ix_lsI (rs := rs) (k := 1) (by omega)
  have i2 := ix_lsI (rs := rs) (k := 2) (by omega)
  have e2 : sSet 3 (cOp pSubI (cIx (cV 2) (cK (.int 1))) (cK (.int 60))) [.val S, .val (.int (k : Int)), .val (.lst (lsI rs)), .un] = .nx [.val S, .val (.int (k : Int)), .val (.lst (lsI rs)), .val (.int (rs[1] - 60))] :=
    set_at (op_at (ix_at (e1 := [.val S, .val (.int (k : Int)), .val (.lst (lsI rs)), .un]) (e2 := [.val S, .val (.int (k : Int)), .val (.lst (lsI rs)), .un]) rfl rfl i1) rfl (sub_ii _ _)) rfl
  have r0 := hr rs[0] (List.getElem_mem _)
  have r1 := hr rs[1] (List.getElem_mem _)
  have r2 := hr rs[2] (List.getElem_mem _)
  have hcell : Bd 1048576 (ns.getD k 0) := by
    by_cases h : k < ns.length
    · rw [List.getD_eq_getElem?_getD, List.getElem?_eq_getElem h]
      exact bits_lt (hb _ (List.getElem_mem h))
    · rw [List.getD_eq_getElem?_getD, List.getElem?_eq_none (Nat.le_of_not_lt h)]
      exact Bd.zero.mono (by omega)
  have small : ∀ x : Int, x.natAbs < 256 → Bd 1048576 x := fun x h => Bd.mono (a := 8) (show x.natAbs < 2 ^ 8 by omega) (by omega)
  have e3 : ∃ n, Bd 1048576 n ∧ sIf (cTr (cOp (pEq false) (cOp pModI (cIx (cV 2) (cK (.int 0))) (cK (.int 4))) (cK (.int 3)))) (sSet 3 (cCall φ_law_cell [] (cAd (cV 0) (cAd (cV 1) (cA0))))) (sNx) [.val S, .val (.int (k : Int)), .val (.lst (lsI rs)), .val (.int (rs[1] - 60))] = .nx [.val S, .val (.int (k : Int)), .val (.lst (lsI rs)), .val (.int n)] := by
    have m : cOp (pEq false) (cOp pModI (cIx (cV 2) (cK (.int 0))) (cK (.int 4))) (cK (.int 3)) [.val S, .val (.int (k : Int)), .val (.lst (lsI rs)), .val (.int (rs[1] - 60))] = .ok (.d (.bl (rs[0] % 4 == 3))) [.val S, .val (.int (k : Int)), .val (.lst (lsI rs)), .val (.int (rs[1] - 60))] :=
      op_at (op_at (ix_at (e1 := [.val S, .val (.int (k : Int)), .val (.lst (lsI rs)), .val (.int (rs[1] - 60))]) (e2 := [.val S, .val (.int (k : Int)), .val (.lst (lsI rs)), .val (.int (rs[1] - 60))]) rfl rfl i0) rfl (mod_ii (by decide))) rfl (eq_ii _ _)
    by_cases h : (rs[0] % 4 == 3) = true
    · refine ⟨ns.getD k 0, hcell, ?_⟩
      have c1 : cTr (cOp (pEq false) (cOp pModI (cIx (cV 2) (cK (.int 0))) (cK (.int 4))) (cK (.int 3))) [.val S, .val (.int (k : Int)), .val (.lst (lsI rs)), .val (.int (rs[1] - 60))] = .ok true [.val S, .val (.int (k : Int)), .val (.lst (lsI rs)), .val (.int (rs[1] - 60))] := by
        unfold cTr
        rw [m, h]
        rfl
      refine (if_t c1).trans (set_at (call_at (e1 := [.val S, .val (.int (k : Int)), .val (.lst (lsI rs)), .val (.int (rs[1] - 60))]) (as := [.d S, .d (.int k)]) rfl (call_2 ?_)) rfl)
      rw [hS]
      exact law_cell
    · refine ⟨rs[1] - 60, small _ (by omega), ?_⟩
      have c1 : cTr (cOp (pEq false) (cOp pModI (cIx (cV 2) (cK (.int 0))) (cK (.int 4))) (cK (.int 3))) [.val S, .val (.int (k : Int)), .val (.lst (lsI rs)), .val (.int (rs[1] - 60))] = .ok false [.val S, .val (.int (k : Int)), .val (.lst (lsI rs)), .val (.int (rs[1] - 60))] := by
        unfold cTr
        rw [m, (show (rs[0] % 4 == 3) = false by simpa using h)]
        rfl
      exact if_fn c1
  obtain ⟨n, hn, e3⟩ := e3
  have d0 : rs[2] % 40 + 1 ≠ 0 := by omega
  have gg : G 1048576 (nrN n (rs[2] % 40 + 1)) (nrD n (rs[2] % 40 + 1)) n (rs[2] % 40 + 1) := G.nr d0 hn (small _ (by omega))
  refine ⟨nrN n (rs[2] % 40 + 1), nrD n (rs[2] % 40 + 1), fnF_rt rfl s0 (e1 := [.val S, .val (.int (k : Int)), .val (.lst (lsI rs)), .val (.int n)]) ?_ rfl, gself gg.pos gg.low gg.bx gg.bY⟩
  unfold g_law_drawn
  rw [seq_nx e1, seq_nx e2, seq_nx e3]
  refine ret_at (call_at (as := [.d (.int n), .d (.int (rs[2] % 40 + 1))]) (e1 := [.val S, .val (.int (k : Int)), .val (.lst (lsI rs)), .val (.int n)]) (ad_at rfl (ad_at (op_at (op_at (ix_at (e1 := [.val S, .val (.int (k : Int)), .val (.lst (lsI rs)), .val (.int n)]) (e2 := [.val S, .val (.int (k : Int)), .val (.lst (lsI rs)), .val (.int n)]) rfl rfl i2) rfl (mod_ii (by decide))) rfl (add_ii _ _)) rfl)) (call_2 (law_rat d0)))
end L2.S.W

set_option Elab.async false
set_option linter.all false
set_option maxRecDepth 100000
set_option maxHeartbeats 8000000
namespace L2.S.W
open PySem PySem.Spec PyProof.Rows L2 L2.S
def dueL (ps : List (Int × Int)) : List D := ps.map fun p => pr p.1 p.2
def tolL (ps : List (Int × Int)) : List D := ps.map fun p => ob p.1 p.2
def Good (ps : List (Int × Int)) : Prop := ∀ p ∈ ps, 0 < p.2 ∧ Int.gcd p.1 p.2 = 1
theorem dueL_app (ps : List (Int × Int)) (p : Int × Int) : dueL ps ++ [pr p.1 p.2] = dueL (ps ++ [p]) := by simp [dueL]
theorem tolL_app (ps : List (Int × Int)) (p : Int × Int) : tolL ps ++ [ob p.1 p.2] = tolL (ps ++ [p]) := by simp [tolL]
theorem dueL_len (ps : List (Int × Int)) : (dueL ps).length = ps.length := by simp [dueL]
theorem tolL_len (ps : List (Int × Int)) : (tolL ps).length = ps.length := by simp [tolL]
theorem Good.app {ps : List (Int × Int)} (h : Good ps) {p : Int × Int} (h1 : 0 < p.2) (h2 : Int.gcd p.1 p.2 = 1) : Good (ps ++ [p]) := fun q hq => by
  rcases List.mem_append.mp hq with z | z
  · exact h q z
  · simp at z; subst z; exact ⟨h1, h2⟩
theorem app_at {i : Nat} {f : Env' → R} {e e1 : Env'} {b c : Bool} {d : D} {xs ys : List D} (h0 : e[i]? = some (.own b (.l ys))) (h : f e = .ok (.d d) e1) (h1 : e1[i]? = some (.own c (.l xs))) (l : xs.length < 16777216) : sDrop (cApp i f) e = .nx (e1.set i (.own c (.l (xs ++ [d])))) := by
  unfold sDrop cApp withO
  rw [h0, h]
  dsimp only [R.bind]
  rw [h1]
  dsimp only
  rw [if_pos l]
  rfl
/-- one more pair in both lists -/
theorem two_app {e : Env'} {f g : Env' → R} {ps : List (Int × Int)} {p : Int × Int} {S a b k x y m : SV} {Q : Env'} (hl : ps.length < 100)
    (h1 : f ([S, a, b, k, x, y, m, .own false (.l (dueL ps)), .own false (.l (tolL ps))] ++ Q) = .ok (.d (pr p.1 p.2)) ([S, a, b, k, x, y, m, .own false (.l (dueL ps)), .own false (.l (tolL ps))] ++ Q))
    (h2 : g ([S, a, b, k, x, y, m, .own false (.l (dueL (ps ++ [p]))), .own false (.l (tolL ps))] ++ Q) = .ok (.d (ob p.1 p.2)) ([S, a, b, k, x, y, m, .own false (.l (dueL (ps ++ [p]))), .own false (.l (tolL ps))] ++ Q)) :
    sDrop (cApp 7 f) ([S, a, b, k, x, y, m, .own false (.l (dueL ps)), .own false (.l (tolL ps))] ++ Q) = .nx ([S, a, b, k, x, y, m, .own false (.l (dueL (ps ++ [p]))), .own false (.l (tolL ps))] ++ Q) ∧
    sDrop (cApp 8 g) ([S, a, b, k, x, y, m, .own false (.l (dueL (ps ++ [p]))), .own false (.l (tolL ps))] ++ Q) = .nx ([S, a, b, k, x, y, m, .own false (.l (dueL (ps ++ [p]))), .own false (.l (tolL (ps ++ [p])))] ++ Q) := by
  constructor
  · have := app_at (i := 7) (b := false) (c := false) rfl h1 rfl (by rw [dueL_len]; omega)
    rw [this, ← dueL_app]
    rfl
  · have := app_at (i := 8) (b := false) (c := false) rfl h2 rfl (by rw [tolL_len]; omega)
    rw [this, ← tolL_app]
    rfl
theorem a0_at {e : Env'} : cA0 e = .ok [] e := rfl
theorem own_ii {M : List (Nat × Fn)} {p : D → D → Option RV} {f g : Env' → R} {e e1 e2 : Env'} {x : Int} {y : D} {r : RV} (h1 : f e = .ok (.d (.int x)) e1) (h2 : g e1 = .ok (.d y) e2) (h3 : p (.int x) y = some r) : two (pOwn M p) f g e = .ok r e2 := by
  unfold two
  rw [h1]
  show (g e1).bind _ = _
  rw [h2]
  show ofOp p (.int x) y e2 = _
  unfold ofOp
  rw [h3]
theorem own_obs {M : List (Nat × Fn)} {φ : Fn} {p : D → D → Option RV} {f g : Env' → R} {e e1 e2 : Env'} {xs ys : List D} {z : D} (h1 : f e = .ok (.d (.obj 0 xs)) e1) (h2 : g e1 = .ok (.d (.obj 0 ys)) e2) (hm : M.lookup 0 = some φ) (h3 : φ [.val (.obj 0 xs), .val (.obj 0 ys)] = .ok (.d z) []) : two (pOwn M p) f g e = .ok (.d z) e2 := by
  unfold two
  rw [h1]
  show (g e1).bind _ = _
  rw [h2]
  show pOwn M p (.obj 0 xs) (.obj 0 ys) e2 = _
  rw [own_oo, hm]
  exact call_2 h3
theorem negM_ob {M : List (Nat × Fn)} {φ : Fn} {f : Env' → R} {e e1 : Env'} {xs : List D} {z : D} (h1 : f e = .ok (.d (.obj 0 xs)) e1) (hm : M.lookup 0 = some φ) (h3 : φ [.val (.obj 0 xs)] = .ok (.d z) []) : cNegM M f e = .ok (.d z) e1 := by
  unfold cNegM
  rw [h1]
  show (match M.lookup 0 with | some φ => callR φ [] [.d (.obj 0 xs)] e1 | none => .no) = _
  rw [hm]
  exact call_1 h3
theorem lst_at {fa : Env' → RA} {e e1 : Env'} {ds : List D} {as : List AV} (h : fa e = .ok as e1) (h2 : avD as = some ds) (hl : ds.length < 100) : cLst fa e = .ok (.o (.l ds)) e1 := by
  unfold cLst RA.bind
  rw [h]
  dsimp only
  rw [h2]
  dsimp only
  rw [if_pos (by omega)]
theorem setO_atO {i : Nat} {f : Env' → R} {e e1 : Env'} {o : OB} (h : f e = .ok (.o o) e1) (c : canSet e1 i = true) : sSetO i f e = .nx (e1.set i (.own false o)) := by
  unfold sSetO
  rw [h]
  show (if canSet e1 i = true then RS.nx (e1.set i (.own false o)) else .no) = _
  rw [if_pos c]
theorem make_at {c nf : Nat} {φ : Fn} {dds : List D} {fa : Env' → RA} {e e1 : Env'} {as : List AV} {r : R} (h2 : fa e = .ok as e1) (h3 : makeR c nf φ dds as e1 = r) : cMake c nf φ dds fa e = r := by
  unfold cMake RA.bind
  rw [h2]
  exact h3
/-- the loop at the end: both lists tell the same -/
theorem pairs_loop {ps : List (Int × Int)} (hg : Good ps) (hl : ps.length < 100) (S a b k x y m : SV) (q r : SV) :
    ∃ z, sFor (iR1 (cAd (cLenO 7) (cA0))) (gN 9) (sIf (cTr (two (pEqM true ((0, φ_Ratio_eq, [0, 1, 2, 3, 4, 5, 10]) :: []) (pEq true)) (cCall φ_law_pair [] (cAd (cIxO 8 (cV 9)) (cA0))) (cIxO 7 (cV 9)))) (sRet (cK (.bl false))) (sNx))
      [S, a, b, k, x, y, m, .own false (.l (dueL ps)), .own false (.l (tolL ps)), .un, q, r] = .nx [S, a, b, k, x, y, m, .own false (.l (dueL ps)), .own false (.l (tolL ps)), z, q, r] := by
  obtain ⟨e', h1, h2⟩ := for_run (f := iR1 (cAd (cLenO 7) (cA0))) (h := gN 9) (t := sIf (cTr (two (pEqM true ((0, φ_Ratio_eq, [0, 1, 2, 3, 4, 5, 10]) :: []) (pEq true)) (cCall φ_law_pair [] (cAd (cIxO 8 (cV 9)) (cA0))) (cIxO 7 (cV 9)))) (sRet (cK (.bl false))) (sNx))
    (env := [S, a, b, k, x, y, m, .own false (.l (dueL ps)), .own false (.l (tolL ps)), .un, q, r])
    (fun i e => ∃ z, e = [S, a, b, k, x, y, m, .own false (.l (dueL ps)), .own false (.l (tolL ps)), z, q, r] ∧ Fr1 z)
    (iR1_at (n := ps.length) (by rw [← dueL_len ps]; rfl) (by omega)) ⟨.un, rfl, .un⟩ (by
      rintro i d e hd ⟨z, rfl, hz⟩
      obtain ⟨hi, rfl⟩ := rng_get hd
      refine ⟨_, gN_at (hz.can rfl), _, .inl ?_, .val (.int i), rfl, .val⟩
      obtain ⟨g1, g2⟩ := hg _ (List.getElem_mem hi)
      have ta : atI (tolL ps) (i : Int) = some (ob ps[i].1 ps[i].2) := by unfold atI ixN; simp [tolL, hi]
      have da : atI (dueL ps) (i : Int) = some (pr ps[i].1 ps[i].2) := by unfold atI ixN; simp [dueL, hi]
      have f1 : cIxO 8 (cV 9) [S, a, b, k, x, y, m, .own false (.l (dueL ps)), .own false (.l (tolL ps)), .val (.int i), q, r] = .ok (.d (ob ps[i].1 ps[i].2)) [S, a, b, k, x, y, m, .own false (.l (dueL ps)), .own false (.l (tolL ps)), .val (.int i), q, r] := by
        show (match atI (tolL ps) (i : Int) with | some y => R.ok (.d y) _ | none => .no) = _
        rw [ta]
      have f2 : cIxO 7 (cV 9) [S, a, b, k, x, y, m, .own false (.l (dueL ps)), .own false (.l (tolL ps)), .val (.int i), q, r] = .ok (.d (pr ps[i].1 ps[i].2)) [S, a, b, k, x, y, m, .own false (.l (dueL ps)), .own false (.l (tolL ps)), .val (.int i), q, r] := by
        show (match atI (dueL ps) (i : Int) with | some y => R.ok (.d y) _ | none => .no) = _
        rw [da]
      have c1 : cTr (two (pEqM true ((0, φ_Ratio_eq, [0, 1, 2, 3, 4, 5, 10]) :: []) (pEq true)) (cCall φ_law_pair [] (cAd (cIxO 8 (cV 9)) (cA0))) (cIxO 7 (cV 9))) [S, a, b, k, x, y, m, .own false (.l (dueL ps)), .own false (.l (tolL ps)), .val (.int i), q, r] = .ok false [S, a, b, k, x, y, m, .own false (.l (dueL ps)), .own false (.l (tolL ps)), .val (.int i), q, r] := by
        unfold cTr two
        rw [call_at (ad_at f1 a0_at) (call_1 (l_pair g1 g2))]
        dsimp only [R.bind]
        rw [f2]
        dsimp only [R.bind]
        have : pEqM true ((0, φ_Ratio_eq, [0, 1, 2, 3, 4, 5, 10]) :: []) (pEq true) (pr ps[i].1 ps[i].2) (pr ps[i].1 ps[i].2) = ofOp (pEq true) (pr ps[i].1 ps[i].2) (pr ps[i].1 ps[i].2) := rfl
        rw [this]
        have e : pEq true (pr ps[i].1 ps[i].2) (pr ps[i].1 ps[i].2) = some (.d (.bl (!(eqD (pr ps[i].1 ps[i].2) (pr ps[i].1 ps[i].2))))) := rfl
        unfold ofOp
        rw [e]
        have e2 : eqD (pr ps[i].1 ps[i].2) (pr ps[i].1 ps[i].2) = true := by simp [eqD, eqDs]
        rw [e2]
        rfl
      exact if_fn c1)
  obtain ⟨z, rfl, _⟩ := h2
  exact ⟨z, h1⟩
end L2.S.W

set_option Elab.async false
set_option linter.all false
set_option maxRecDepth 100000
set_option maxHeartbeats 8000000
namespace L2.S.W
open PySem PySem.Spec PyProof.Rows L2 L2.S
section
variable {S : D} {a0 a1 b0 b1 k : Int}
abbrev E6 (S : D) (a0 a1 b0 b1 k : Int) (u v : SV) : Env' := [.val S, .val (pr a0 a1), .val (pr b0 b1), .val (.int k), .val (ob a0 a1), .val (ob b0 b1), .val (pr (-b0) b1), u, v, .un, .un, .un]
theorem seven (ga : G 1048576 a0 a1 a0 a1) (gb : G 1048576 b0 b1 b0 b1) :
    ∃ ps, ps.length = 4 ∧ Good ps ∧ sSetO 7 (cLst (cAd (cCall φ_law_add [] (cAd (cV 1) (cAd (cV 2) (cA0)))) (cAd (cCall φ_law_add [] (cAd (cV 1) (cAd (cV 6) (cA0)))) (cAd (cCall φ_law_mul [] (cAd (cV 1) (cAd (cV 2) (cA0)))) (cAd (cV 6) (cA0)))))) (E6 S a0 a1 b0 b1 k .un .un) = .nx (E6 S a0 a1 b0 b1 k (.own false (.l (dueL ps))) .un) ∧
    sSetO 8 (cLst (cAd (two (pOwn ((0, φ_Ratio_add) :: []) pAdd) (cV 4) (cV 5)) (cAd (two (pOwn ((0, φ_Ratio_sub) :: []) pSubI) (cV 4) (cV 5)) (cAd (two (pOwn ((0, φ_Ratio_mul) :: []) pMul) (cV 4) (cV 5)) (cAd (cNegM ((0, φ_Ratio_neg) :: []) (cV 5)) (cA0)))))) (E6 S a0 a1 b0 b1 k (.own false (.l (dueL ps))) .un) = .nx (E6 S a0 a1 b0 b1 k (.own false (.l (dueL ps))) (.own false (.l (tolL ps)))) := by
  have gm := neg_low gb
  have hD := Int.mul_ne_zero ga.ne gb.ne
  have L1 := l_add ga.ne gb.ne ga.bx ga.bY gb.bx gb.bY (by omega)
  have L2 := l_add ga.ne gm.ne ga.bx ga.bY gm.bx gm.bY (by omega)
  have L3 := l_mul ga.ne gb.ne ga.bx ga.bY gb.bx gb.bY (by omega)
  have T1 := r_add ga.ne gb.ne ga.bx ga.bY gb.bx gb.bY (by omega)
  have T2 := r_sub ga.ne gb.ne ga.bx ga.bY gb.bx gb.bY (by omega)
  have T3 := r_mul ga.ne gb.ne ga.bx ga.bY gb.bx gb.bY (by omega)
  have T4 := r_neg (a := b0) gb.ne
  have es : a0 * b1 - b0 * a1 = a0 * b1 + -b0 * a1 := by grind
  rw [es] at T2
  have nl := nr_low gm.pos gm.low
  rw [nl.1, nl.2] at T4
  refine ⟨[(nrN (a0 * b1 + b0 * a1) (a1 * b1), nrD (a0 * b1 + b0 * a1) (a1 * b1)), (nrN (a0 * b1 + -b0 * a1) (a1 * b1), nrD (a0 * b1 + -b0 * a1) (a1 * b1)), (nrN (a0 * b0) (a1 * b1), nrD (a0 * b0) (a1 * b1)), (-b0, b1)], rfl, ?_, ?_, ?_⟩
  · intro p hp
    simp only [List.mem_cons, List.mem_nil_iff, or_false] at hp
    rcases hp with rfl | rfl | rfl | rfl
    · exact ⟨nrD_pos hD, nr_gcd hD⟩
    · exact ⟨nrD_pos hD, nr_gcd hD⟩
    · exact ⟨nrD_pos hD, nr_gcd hD⟩
    · exact ⟨gm.pos, gm.low⟩
  · exact setO_atO (e1 := E6 S a0 a1 b0 b1 k .un .un) (lst_at (ad_at (call_at rfl (call_2 L1)) (ad_at (call_at rfl (call_2 L2)) (ad_at (call_at rfl (call_2 L3)) (ad_at rfl a0_at)))) rfl (show 4 < 100 by omega)) rfl
  · refine setO_atO (e1 := E6 S a0 a1 b0 b1 k (.own false (.l (dueL [(nrN (a0 * b1 + b0 * a1) (a1 * b1), nrD (a0 * b1 + b0 * a1) (a1 * b1)), (nrN (a0 * b1 + -b0 * a1) (a1 * b1), nrD (a0 * b1 + -b0 * a1) (a1 * b1)), (nrN (a0 * b0) (a1 * b1), nrD (a0 * b0) (a1 * b1)), (-b0, b1)]))) .un) (lst_at (ad_at (own_obs rfl rfl rfl T1) (ad_at (own_obs rfl rfl rfl T2) (ad_at (own_obs rfl rfl rfl T3) (ad_at (negM_ob rfl rfl T4) a0_at)))) rfl (show 4 < 100 by omega)) rfl
theorem seq4 {t1 t2 t3 t4 : Env' → RS} {e e1 e2 e3 e4 : Env'} (h1 : t1 e = .nx e1) (h2 : t2 e1 = .nx e2) (h3 : t3 e2 = .nx e3) (h4 : t4 e3 = .nx e4) : sSeq t1 (sSeq t2 (sSeq t3 t4)) e = .nx e4 := by
  rw [seq_nx h1, seq_nx h2, seq_nx h3, h4]
theorem neM_i {M : List (Nat × Fn × List Nat)} {f : Env' → R} {e e1 : Env'} {x : Int} (h : f e = .ok (.d (.int x)) e1) : cTr (two (pEqM true M (pEq true)) f (cK (.int 0))) e = .ok (!(x == 0)) e1 := by
  unfold cTr two
  rw [h]
  rfl
theorem inv_part (ga : G 1048576 a0 a1 a0 a1) (gb : G 1048576 b0 b1 b0 b1) {ps : List (Int × Int)} (hl : ps.length ≤ 4) (hg : Good ps) :
    ∃ qs, qs.length ≤ 6 ∧ Good qs ∧ sIf (cTr (two (pEqM true ((0, φ_Ratio_eq, [0, 1, 2, 3, 4, 5, 10]) :: []) (pEq true)) (cIx (cV 2) (cK (.int 0))) (cK (.int 0)))) (sSeq (sDrop (cApp 7 (cCall φ_law_rat [] (cAd (cIx (cV 2) (cK (.int 1))) (cAd (cIx (cV 2) (cK (.int 0))) (cA0)))))) (
sSeq (sDrop (cApp 8 (cMeth 0 φ_Ratio_inverse [] (cV 5) cA0))) (
sSeq (sDrop (cApp 7 (cCall φ_law_rat [] (cAd (two (pOwn ((0, φ_Ratio_mul) :: []) pMul) (cIx (cV 1) (cK (.int 0))) (cIx (cV 2) (cK (.int 1)))) (cAd (two (pOwn ((0, φ_Ratio_mul) :: []) pMul) (cIx (cV 1) (cK (.int 1))) (cIx (cV 2) (cK (.int 0)))) (cA0)))))) (
sDrop (cApp 8 (cMeth 0 φ_Ratio_over [] (cV 4) (cAd (cV 5) (cA0)))))))) (sNx) (E6 S a0 a1 b0 b1 k (.own false (.l (dueL ps))) (.own false (.l (tolL ps)))) = .nx (E6 S a0 a1 b0 b1 k (.own false (.l (dueL qs))) (.own false (.l (tolL qs)))) := by
  by_cases hb : b0 = 0
  · refine ⟨ps, by omega, hg, if_fn ?_⟩
    rw [neM_i (show cIx (cV 2) (cK (.int 0)) (E6 S a0 a1 b0 b1 k (.own false (.l (dueL ps))) (.own false (.l (tolL ps)))) = .ok (.d (.int b0)) (E6 S a0 a1 b0 b1 k (.own false (.l (dueL ps))) (.own false (.l (tolL ps)))) from rfl), hb]
    rfl
  · have c1 : cTr (two (pEqM true ((0, φ_Ratio_eq, [0, 1, 2, 3, 4, 5, 10]) :: []) (pEq true)) (cIx (cV 2) (cK (.int 0))) (cK (.int 0))) (E6 S a0 a1 b0 b1 k (.own false (.l (dueL ps))) (.own false (.l (tolL ps)))) = .ok true (E6 S a0 a1 b0 b1 k (.own false (.l (dueL ps))) (.own false (.l (tolL ps)))) := by
      rw [neM_i (show cIx (cV 2) (cK (.int 0)) (E6 S a0 a1 b0 b1 k (.own false (.l (dueL ps))) (.own false (.l (tolL ps)))) = .ok (.d (.int b0)) (E6 S a0 a1 b0 b1 k (.own false (.l (dueL ps))) (.own false (.l (tolL ps)))) from rfl)]
      have : (b0 == 0) = false := by simpa using hb
      rw [this]
      rfl
    have L1 := law_rat (n := b1) hb
    have T1 := r_inv (b := b1) hb
    have hD : a1 * b0 ≠ 0 := Int.mul_ne_zero ga.ne hb
    have L2 := law_rat (n := a0 * b1) hD
    have T2 := r_over ga.ne hb ga.bx ga.bY gb.bx gb.bY (by omega)
    have m1 := mul_ii (ga.bx.ok gb.bY (by omega))
    have m2 := mul_ii (ga.bY.ok gb.bx (by omega))
    have A1 := two_app (ps := ps) (p := (nrN b1 b0, nrD b1 b0)) (S := .val S) (a := .val (pr a0 a1)) (b := .val (pr b0 b1)) (k := .val (.int k)) (x := .val (ob a0 a1)) (y := .val (ob b0 b1)) (m := .val (pr (-b0) b1)) (Q := [.un, .un, .un])
      (f := cCall φ_law_rat [] (cAd (cIx (cV 2) (cK (.int 1))) (cAd (cIx (cV 2) (cK (.int 0))) (cA0)))) (g := cMeth 0 φ_Ratio_inverse [] (cV 5) cA0) (e := []) (by omega) (call_at rfl (call_2 L1)) (meth_at rfl a0_at (call_1 T1))
    have A2 := two_app (ps := ps ++ [(nrN b1 b0, nrD b1 b0)]) (p := (nrN (a0 * b1) (a1 * b0), nrD (a0 * b1) (a1 * b0))) (S := .val S) (a := .val (pr a0 a1)) (b := .val (pr b0 b1)) (k := .val (.int k)) (x := .val (ob a0 a1)) (y := .val (ob b0 b1)) (m := .val (pr (-b0) b1)) (Q := [.un, .un, .un])
      (f := cCall φ_law_rat [] (cAd (two (pOwn ((0, φ_Ratio_mul) :: []) pMul) (cIx (cV 1) (cK (.int 0))) (cIx (cV 2) (cK (.int 1)))) (cAd (two (pOwn ((0, φ_Ratio_mul) :: []) pMul) (cIx (cV 1) (cK (.int 1))) (cIx (cV 2) (cK (.int 0)))) (cA0)))) (g := cMeth 0 φ_Ratio_over [] (cV 4) (cAd (cV 5) (cA0))) (e := []) (by simp; omega)
      (call_at (ad_at (own_ii rfl rfl m1) (ad_at (own_ii rfl rfl m2) a0_at)) (call_2 L2)) (meth_at rfl (ad_at rfl a0_at) (call_2 T2))
    refine ⟨ps ++ [(nrN b1 b0, nrD b1 b0)] ++ [(nrN (a0 * b1) (a1 * b0), nrD (a0 * b1) (a1 * b0))], by simp; omega, (hg.app (nrD_pos hb) (nr_gcd hb)).app (nrD_pos hD) (nr_gcd hD), (if_t c1).trans (seq4 A1.1 A1.2 A2.1 A2.2)⟩
end
end L2.S.W

set_option Elab.async false
set_option linter.all false
set_option maxRecDepth 100000
set_option maxHeartbeats 8000000
namespace L2.S.W
open PySem PySem.Spec PyProof.Rows L2 L2.S
section
variable {S : D} {a0 a1 b0 b1 k : Int}
theorem adL_at {f : Env' → R} {fa : Env' → RA} {e e1 e2 : Env'} {xs : List D} {as : List AV} (h1 : f e = .ok (.o (.l xs)) e1) (h2 : fa e1 = .ok as e2) : cAd f fa e = .ok (.d (.lst xs) :: as) e2 := by
  unfold cAd
  rw [h1]
  show (match fa e1 with | .ok as e' => RA.ok (.d (.lst xs) :: as) e' | .ex x e' => .ex x e' | .no => .no) = _
  rw [h2]
theorem or_t {f g : Env' → RT} {e e1 : Env'} (h : f e = .ok true e1) : cOrT f g e = .ok true e1 := by unfold cOrT; rw [h]; rfl
theorem or_f {f g : Env' → RT} {e e1 : Env'} {r : RT} (h : f e = .ok false e1) (h2 : g e1 = r) : cOrT f g e = r := by unfold cOrT; rw [h]; exact h2
theorem seq2 {t1 t2 : Env' → RS} {e e1 e2 : Env'} (h1 : t1 e = .nx e1) (h2 : t2 e1 = .nx e2) : sSeq t1 t2 e = .nx e2 := by rw [seq_nx h1, h2]
theorem pow_part (ga : G 1048576 a0 a1 a0 a1) {ps : List (Int × Int)} (hl : ps.length ≤ 6) (hg : Good ps) (k1 : -5 ≤ k) (k2 : k ≤ 5) :
    ∃ qs, qs.length ≤ 7 ∧ Good qs ∧ sIf (cOrT (cTr (cOp (pGe) (cV 3) (cK (.int 0)))) (cTr (two (pEqM true ((0, φ_Ratio_eq, [0, 1, 2, 3, 4, 5, 10]) :: []) (pEq true)) (cIx (cV 1) (cK (.int 0))) (cK (.int 0))))) (sSeq (sDrop (cApp 7 (cCall φ_law_power [] (cAd (cV 1) (cAd (cV 3) (cA0)))))) (
sDrop (cApp 8 (cMeth 0 φ_Ratio_power [] (cV 4) (cAd (cV 3) (cA0)))))) (sNx) (E6 S a0 a1 b0 b1 k (.own false (.l (dueL ps))) (.own false (.l (tolL ps)))) = .nx (E6 S a0 a1 b0 b1 k (.own false (.l (dueL qs))) (.own false (.l (tolL qs)))) := by
  have more : ∀ r s : Int, 0 < s → Int.gcd r s = 1 → φ_law_power [.val (pr a0 a1), .val (.int k)] = .ok (.d (pr r s)) [] → φ_Ratio_power [.val (ob a0 a1), .val (.int k)] = .ok (.d (ob r s)) [] →
      cOrT (cTr (cOp (pGe) (cV 3) (cK (.int 0)))) (cTr (two (pEqM true ((0, φ_Ratio_eq, [0, 1, 2, 3, 4, 5, 10]) :: []) (pEq true)) (cIx (cV 1) (cK (.int 0))) (cK (.int 0)))) (E6 S a0 a1 b0 b1 k (.own false (.l (dueL ps))) (.own false (.l (tolL ps)))) = .ok true (E6 S a0 a1 b0 b1 k (.own false (.l (dueL ps))) (.own false (.l (tolL ps)))) →
      ∃ qs, qs.length ≤ 7 ∧ Good qs ∧ sIf (cOrT (cTr (cOp (pGe) (cV 3) (cK (.int 0)))) (cTr (two (pEqM true ((0, φ_Ratio_eq, [0, 1, 2, 3, 4, 5, 10]) :: []) (pEq true)) (cIx (cV 1) (cK (.int 0))) (cK (.int 0))))) (sSeq (sDrop (cApp 7 (cCall φ_law_power [] (cAd (cV 1) (cAd (cV 3) (cA0)))))) (
sDrop (cApp 8 (cMeth 0 φ_Ratio_power [] (cV 4) (cAd (cV 3) (cA0)))))) (sNx) (E6 S a0 a1 b0 b1 k (.own false (.l (dueL ps))) (.own false (.l (tolL ps)))) = .nx (E6 S a0 a1 b0 b1 k (.own false (.l (dueL qs))) (.own false (.l (tolL qs)))) := fun r s h1 h2 L T c1 => by
    have A1 := two_app (ps := ps) (p := (r, s)) (S := .val S) (a := .val (pr a0 a1)) (b := .val (pr b0 b1)) (k := .val (.int k)) (x := .val (ob a0 a1)) (y := .val (ob b0 b1)) (m := .val (pr (-b0) b1)) (Q := [.un, .un, .un])
      (f := cCall φ_law_power [] (cAd (cV 1) (cAd (cV 3) (cA0)))) (g := cMeth 0 φ_Ratio_power [] (cV 4) (cAd (cV 3) (cA0))) (e := []) (by omega) (call_at rfl (call_2 L)) (meth_at rfl (ad_at rfl a0_at) (call_2 T))
    exact ⟨ps ++ [(r, s)], by simp; omega, hg.app h1 h2, (if_t c1).trans (seq2 A1.1 A1.2)⟩
  have cge : cTr (cOp (pGe) (cV 3) (cK (.int 0))) (E6 S a0 a1 b0 b1 k (.own false (.l (dueL ps))) (.own false (.l (tolL ps)))) = .ok (decide (0 ≤ k)) (E6 S a0 a1 b0 b1 k (.own false (.l (dueL ps))) (.own false (.l (tolL ps)))) := rfl
  have cne : cTr (two (pEqM true ((0, φ_Ratio_eq, [0, 1, 2, 3, 4, 5, 10]) :: []) (pEq true)) (cIx (cV 1) (cK (.int 0))) (cK (.int 0))) (E6 S a0 a1 b0 b1 k (.own false (.l (dueL ps))) (.own false (.l (tolL ps)))) = .ok (!(a0 == 0)) (E6 S a0 a1 b0 b1 k (.own false (.l (dueL ps))) (.own false (.l (tolL ps)))) := neM_i rfl
  by_cases hk : 0 ≤ k
  · obtain ⟨j, rfl⟩ : ∃ j : Nat, k = (j : Int) := ⟨k.toNat, by omega⟩
    obtain ⟨r, s, L, gj⟩ := l_pow ga (j := j) (by omega) (by omega)
    have T := r_pow (k := j) 1 ga.ne ga.bx ga.bY (by omega) (by omega)
    have hp : a1 ^ j ≠ 0 := Int.pow_ne_zero ga.ne
    have gT : G (1048576 * j + 1) _ _ (a0 ^ j) (a1 ^ j) := G.nr hp (ga.bx.pow j) (ga.bY.pow j)
    have u := gT.uniq gj hp hp rfl
    rw [u.1, u.2] at T
    exact more r s gj.pos gj.low L T (or_t (by rw [cge, decide_eq_true hk]))
  · rw [decide_eq_false hk] at cge
    by_cases ha : a0 = 0
    · refine ⟨ps, by omega, hg, if_fn (or_f cge ?_)⟩
      rw [cne, ha]
      rfl
    · obtain ⟨j, hj⟩ : ∃ j : Nat, k = -(j : Int) := ⟨(-k).toNat, by omega⟩
      have h0 : 0 < j := by omega
      obtain ⟨r, s, L, gj⟩ := l_pown ga (j := j) ha (by omega) h0 (by omega)
      have T := r_pown (k := j) ha ga.ne ga.bx ga.bY (by omega) h0 (by omega)
      rw [← hj] at L T
      have gi : G 1048576 (nrN a1 a0) (nrD a1 a0) a1 a0 := G.nr ha ga.bY ga.bx
      have hp : nrD a1 a0 ^ j ≠ 0 := Int.pow_ne_zero gi.ne
      have gT : G (1048576 * j + 1) _ _ (nrN a1 a0 ^ j) (nrD a1 a0 ^ j) := G.nr hp (gi.bx.pow j) (gi.bY.pow j)
      have e : nrN a1 a0 ^ j * a0 ^ j = a1 ^ j * nrD a1 a0 ^ j := by rw [← Int.mul_pow, ← Int.mul_pow, gi.rep]
      have u := gT.uniq gj hp (Int.pow_ne_zero ha) e
      rw [u.1, u.2] at T
      refine more r s gj.pos gj.low L T (or_f cge ?_)
      rw [cne, (show (a0 == 0) = false by simpa using ha)]
      rfl
theorem tot_part (ga : G 1048576 a0 a1 a0 a1) (gb : G 1048576 b0 b1 b0 b1) {ps : List (Int × Int)} (hl : ps.length ≤ 7) (hg : Good ps) :
    ∃ qs, qs.length ≤ 9 ∧ Good qs ∧ ∃ e1 e2 e3, sDrop (cApp 7 (cCall φ_law_add [] (cAd (cCall φ_law_add [] (cAd (cV 1) (cAd (cV 2) (cA0)))) (cAd (cCall φ_law_add [] (cAd (cV 1) (cAd (cV 6) (cA0)))) (cA0))))) (E6 S a0 a1 b0 b1 k (.own false (.l (dueL ps))) (.own false (.l (tolL ps)))) = .nx e1 ∧
      sDrop (cApp 8 (cCall φ_law_honest [] (cAd (cCall φ_total [] (cAd (cLst (cAd (cV 4) (cAd (cV 5) (cAd (cV 4) (cAd (cNegM ((0, φ_Ratio_neg) :: []) (cV 5)) (cA0)))))) (cA0))) (cA0)))) e1 = .nx e2 ∧
      sDrop (cApp 7 (cTup (cAd (cK (.int 0)) (cAd (cK (.int 1)) (cA0))))) e2 = .nx e3 ∧
      sDrop (cApp 8 (cCall φ_law_honest [] (cAd (cCall φ_total [] (cAd (cTup (cA0)) (cA0))) (cA0)))) e3 = .nx (E6 S a0 a1 b0 b1 k (.own false (.l (dueL qs))) (.own false (.l (tolL qs)))) := by
  have gm := neg_low gb
  obtain ⟨r1, s1, L1, g1⟩ := la_G ga gb (by omega)
  obtain ⟨r2, s2, L2, g2⟩ := la_G ga gm (by omega)
  obtain ⟨r3, s3, L3, g3⟩ := la_G g1 g2 (by omega)
  obtain ⟨r, s, T, gt⟩ := r_total4 ga gb gm (by omega) (by omega)
  have T4 := r_neg (a := b0) gb.ne
  have nl := nr_low gm.pos gm.low
  rw [nl.1, nl.2] at T4
  have h1 := ga.ne
  have h2 := gb.ne
  have d1 : a1 * b1 * (a1 * b1) ≠ 0 := Int.mul_ne_zero (Int.mul_ne_zero h1 h2) (Int.mul_ne_zero h1 h2)
  have d2 : 1 * a1 * b1 * a1 * b1 ≠ 0 := Int.mul_ne_zero (Int.mul_ne_zero (Int.mul_ne_zero (Int.mul_ne_zero (by decide) h1) h2) h1) h2
  have u := gt.uniq g3 d2 d1 (by grind)
  rw [u.1, u.2] at T
  have T0 := r_total0
  rw [n01.1, n01.2] at T0
  have A1 := two_app (ps := ps) (p := (r3, s3)) (S := .val S) (a := .val (pr a0 a1)) (b := .val (pr b0 b1)) (k := .val (.int k)) (x := .val (ob a0 a1)) (y := .val (ob b0 b1)) (m := .val (pr (-b0) b1)) (Q := [.un, .un, .un])
    (f := cCall φ_law_add [] (cAd (cCall φ_law_add [] (cAd (cV 1) (cAd (cV 2) (cA0)))) (cAd (cCall φ_law_add [] (cAd (cV 1) (cAd (cV 6) (cA0)))) (cA0)))) (g := cCall φ_law_honest [] (cAd (cCall φ_total [] (cAd (cLst (cAd (cV 4) (cAd (cV 5) (cAd (cV 4) (cAd (cNegM ((0, φ_Ratio_neg) :: []) (cV 5)) (cA0)))))) (cA0))) (cA0))) (e := []) (by omega)
    (call_at (ad_at (call_at rfl (call_2 L1)) (ad_at (call_at rfl (call_2 L2)) a0_at)) (call_2 L3))
    (call_at (ad_at (call_at (adL_at (lst_at (ad_at rfl (ad_at rfl (ad_at rfl (ad_at (negM_ob rfl rfl T4) a0_at)))) rfl (show 4 < 100 by omega)) a0_at) (call_1 T)) a0_at) (call_1 (l_honest r3 s3)))
  have A2 := two_app (ps := ps ++ [(r3, s3)]) (p := (0, 1)) (S := .val S) (a := .val (pr a0 a1)) (b := .val (pr b0 b1)) (k := .val (.int k)) (x := .val (ob a0 a1)) (y := .val (ob b0 b1)) (m := .val (pr (-b0) b1)) (Q := [.un, .un, .un])
    (f := cTup (cAd (cK (.int 0)) (cAd (cK (.int 1)) (cA0)))) (g := cCall φ_law_honest [] (cAd (cCall φ_total [] (cAd (cTup (cA0)) (cA0))) (cA0))) (e := []) (by simp; omega)
    rfl (call_at (ad_at (call_at (ad_at rfl a0_at) (call_1 T0)) a0_at) (call_1 (l_honest 0 1)))
  exact ⟨ps ++ [(r3, s3)] ++ [(0, 1)], by simp; omega, (hg.app g3.pos g3.low).app (by decide) (by decide), _, _, _, A1.1, A1.2, A2.1, A2.2⟩
end
end L2.S.W

set_option Elab.async false
set_option linter.all false
set_option maxRecDepth 100000
set_option maxHeartbeats 8000000
namespace L2.S.W
open PySem PySem.Spec PyProof.Rows L2 L2.S
theorem bi_gt {f : Env' → R} {e : Env'} {g : Int} (h : f e = .ok (.d (.int g)) e) : cBi bInt (cAd (cOp pGt f (cK (.int 0))) cA0) e = .ok (.d (.int (if 0 < g then 1 else 0))) e := by
  have q := op_at (p := pGt) h (show cK (.int 0) e = _ from rfl) (gt_ii _ _)
  unfold cBi RA.bind
  rw [ad_at q a0_at]
  show (match bInt [.bl (decide (0 < g))] with | some r => R.ok r e | none => .no) = _
  rw [gt_bl]
theorem bi_lt {f : Env' → R} {e : Env'} {g : Int} (h : f e = .ok (.d (.int g)) e) : cBi bInt (cAd (cOp pLt f (cK (.int 0))) cA0) e = .ok (.d (.int (if g < 0 then 1 else 0))) e := by
  have q := op_at (p := pLt) h (show cK (.int 0) e = _ from rfl) (lt_ii _ _)
  unfold cBi RA.bind
  rw [ad_at q a0_at]
  show (match bInt [.bl (decide (g < 0))] with | some r => R.ok r e | none => .no) = _
  rw [lt_bl]
theorem sg_at {f : Env' → R} {e : Env'} {g : Int} (h : f e = .ok (.d (.int g)) e) : cOp pSubI (cBi bInt (cAd (cOp pGt f (cK (.int 0))) cA0)) (cBi bInt (cAd (cOp pLt f (cK (.int 0))) cA0)) e = .ok (.d (.int (sg g))) e := op_at (bi_gt h) (bi_lt h) (sub_ii _ _)
theorem ne_same {f g : Env' → R} {e : Env'} {x : Int} (h1 : f e = .ok (.d (.int x)) e) (h2 : g e = .ok (.d (.int x)) e) : cTr (cOp (pEq true) f g) e = .ok false e := by
  unfold cTr
  rw [op_at h1 h2 (ne_ii _ _)]
  have : (x == x) = true := by simp
  rw [this]
  rfl
theorem eqp_at {M : List (Nat × Fn × List Nat)} {f g : Env' → R} {e : Env'} {a b : Int} (h1 : f e = .ok (.d (pr a b)) e) (h2 : g e = .ok (.d (pr a b)) e) : two (pEqM false M (orP pEqX (pEq false))) f g e = .ok (.d (.bl true)) e := by
  unfold two
  rw [h1]
  show (g e).bind _ = _
  rw [h2]
  have : pEqM false M (orP pEqX (pEq false)) (pr a b) (pr a b) e = ofOp (orP pEqX (pEq false)) (pr a b) (pr a b) e := rfl
  show pEqM false M (orP pEqX (pEq false)) (pr a b) (pr a b) e = _
  rw [this]
  unfold ofOp
  have e1 : orP pEqX (pEq false) (pr a b) (pr a b) = some (.d (.bl (eqD (pr a b) (pr a b)))) := rfl
  rw [e1]
  have e2 : eqD (pr a b) (pr a b) = true := by simp [eqD, eqDs]
  rw [e2]
theorem and_at {f g : Env' → R} {e : Env'} {r : R} (h1 : f e = .ok (.d (.bl true)) e) (h2 : g e = r) : cAnd f g e = r := by
  unfold cAnd asB R.bind
  rw [h1]
  exact h2
theorem floor_ok {a b : Int} (hb : 0 < b) : a.fdiv b * b ≤ a ∧ a < (a.fdiv b + 1) * b ∧ (a.fdiv b).natAbs ≤ a.natAbs := by
  rw [Int.fdiv_eq_ediv_of_nonneg a (by omega)]
  have h1 := Int.ediv_mul_le a (b := b) (by omega)
  have h2 := Int.lt_ediv_add_one_mul_self a hb
  refine ⟨h1, h2, ?_⟩
  rcases Int.lt_or_le (a / b) 0 with h | h
  · have : (a / b + 1) * b ≤ (a / b + 1) * 1 := Int.mul_le_mul_of_nonpos_left (by omega) (by omega)
    omega
  · have : (a / b) * 1 ≤ (a / b) * b := Int.mul_le_mul_of_nonneg_left (by omega) h
    omega
theorem ch_at {p q : D → D → Option RV} {f g h : Env' → R} {e : Env'} {x y z : D} (h1 : f e = .ok (.d x) e) (h2 : g e = .ok (.d y) e) (h3 : h e = .ok (.d z) e) (k1 : p x y = some (.d (.bl true))) (k2 : q y z = some (.d (.bl true))) : cCh p q f g h e = .ok (.d (.bl true)) e := by
  unfold cCh
  rw [h1]
  show (g e).bind _ = _
  rw [h2]
  show (match p x y with | some (.d (.bl true)) => (h e).bind fun z e2 => ofOp q y z e2 | some (.d (.bl false)) => .ok (.d (.bl false)) e | _ => .no) = _
  rw [k1]
  show (h e).bind _ = _
  rw [h3]
  show ofOp q y z e = _
  unfold ofOp
  rw [k2]
theorem nott_at {f : Env' → R} {e : Env'} (h : f e = .ok (.d (.bl true)) e) : cNotT (cTr f) e = .ok false e := by
  unfold cNotT cTr
  rw [h]
  rfl
theorem neb_same {M : List (Nat × Fn × List Nat)} {f g : Env' → R} {e : Env'} {x : Bool} (h1 : f e = .ok (.d (.bl x)) e) (h2 : g e = .ok (.d (.bl x)) e) : cTr (two (pEqM true M (pEq true)) f g) e = .ok false e := by
  unfold cTr two
  rw [h1]
  show ((g e).bind _).bindT _ = _
  rw [h2]
  cases x <;> rfl
theorem neb_same' {f g : Env' → R} {e : Env'} {x : Bool} (h1 : f e = .ok (.d (.bl x)) e) (h2 : g e = .ok (.d (.bl x)) e) : cTr (cOp (pEq true) f g) e = .ok false e := by
  unfold cTr cOp two
  rw [h1]
  show ((g e).bind _).bindT _ = _
  rw [h2]
  cases x <;> rfl
theorem eqi_at {M : List (Nat × Fn × List Nat)} {f g : Env' → R} {e : Env'} {a b : Int} (h1 : f e = .ok (.d (.int a)) e) (h2 : g e = .ok (.d (.int b)) e) : two (pEqM false M (orP pEqX (pEq false))) f g e = .ok (.d (.bl (a == b))) e := by
  unfold two
  rw [h1]
  show (g e).bind _ = _
  rw [h2]
  rfl
theorem prop_at {f : Env' → R} {φ : Fn} {e : Env'} {xs : List D} {z : D} (h1 : f e = .ok (.d (.obj 0 xs)) e) (h3 : φ [.val (.obj 0 xs)] = .ok (.d z) []) : cProp 0 φ f e = .ok (.d z) e := by
  unfold cProp
  rw [h1]
  show (match callR φ [] [.d (.obj 0 xs)] e with | .ok r e' => R.ok r e' | _ => .no) = _
  rw [call_1 h3]
end L2.S.W

set_option Elab.async false
set_option linter.all false
set_option maxRecDepth 100000
set_option maxHeartbeats 8000000
namespace L2.S.W
open PySem PySem.Spec PyProof.Rows L2 L2.S
theorem the_law : ∀ ns : List Int, ns.length ≤ 63 → (∀ z ∈ ns, Builtin.Int.intBits z ≤ 1048576) → ∃ outs, φ_law [.val (.ro (ns.map D.int))] = .ok (.d (.bl true)) outs := by
  intro ns hlen hbits
  obtain ⟨a0, a1, La, ga⟩ := l_drawn (ns := ns) (k := 0) (by decide) hbits
  obtain ⟨b0, b1, Lb, gb⟩ := l_drawn (ns := ns) (k := 1) (by decide) hbits
  obtain ⟨rs, Lr, hrl, hrr⟩ := law_draws (ns := ns) (k := 2) (count := 1) (bound := 11) (by decide) (by decide) (by decide)
  obtain ⟨S, hS⟩ : ∃ S, S = D.ro (ns.map D.int) := ⟨_, rfl⟩
  rw [← hS] at La Lb Lr ⊢
  have r0 := hrr rs[0] (List.getElem_mem _)
  obtain ⟨k, hk⟩ : ∃ k, k = rs[0] - 5 := ⟨_, rfl⟩
  have e1 : sSet 1 (cCall φ_law_drawn [] (cAd (cV 0) (cAd (cK (.int 0)) (cA0)))) [.val S, .un, .un, .un, .un, .un, .un, .un, .un, .un, .un, .un] = .nx [.val S, .val (pr a0 a1), .un, .un, .un, .un, .un, .un, .un, .un, .un, .un] :=
    set_at (e1 := [.val S, .un, .un, .un, .un, .un, .un, .un, .un, .un, .un, .un]) (call_at rfl (call_2 La)) rfl
  have e2 : sSet 2 (cCall φ_law_drawn [] (cAd (cV 0) (cAd (cK (.int 1)) (cA0)))) [.val S, .val (pr a0 a1), .un, .un, .un, .un, .un, .un, .un, .un, .un, .un] = .nx [.val S, .val (pr a0 a1), .val (pr b0 b1), .un, .un, .un, .un, .un, .un, .un, .un, .un] :=
    set_at (e1 := [.val S, .val (pr a0 a1), .un, .un, .un, .un, .un, .un, .un, .un, .un, .un]) (call_at rfl (call_2 Lb)) rfl
  have e3 : sSet 3 (cOp pSubI (cIx (cCall φ_law_draws [] (cAd (cV 0) (cAd (cK (.int 2)) (cAd (cK (.int 1)) (cAd (cK (.int 11)) (cA0)))))) (cK (.int 0))) (cK (.int 5))) [.val S, .val (pr a0 a1), .val (pr b0 b1), .un, .un, .un, .un, .un, .un, .un, .un, .un] = .nx [.val S, .val (pr a0 a1), .val (pr b0 b1), .val (.int k), .un, .un, .un, .un, .un, .un, .un, .un] := by
    rw [hk]
    exact set_at (e1 := [.val S, .val (pr a0 a1), .val (pr b0 b1), .un, .un, .un, .un, .un, .un, .un, .un, .un]) (op_at (ix_atL (e1 := [.val S, .val (pr a0 a1), .val (pr b0 b1), .un, .un, .un, .un, .un, .un, .un, .un, .un]) (call_at rfl (call_4 Lr)) rfl (ix_lsI (k := 0) (by omega))) rfl (sub_ii _ _)) rfl
  have Ma : ∀ e : Env', makeR 0 2 φ_Ratio_init [] [.d (.int a0), .d (.int a1)] e = .ok (.d (ob a0 a1)) e := fun e => by
    have := mk_1 (n := a0) ga.ne e
    rw [(nr_low ga.pos ga.low).1, (nr_low ga.pos ga.low).2] at this
    exact this
  have Mb : ∀ e : Env', makeR 0 2 φ_Ratio_init [] [.d (.int b0), .d (.int b1)] e = .ok (.d (ob b0 b1)) e := fun e => by
    have := mk_1 (n := b0) gb.ne e
    rw [(nr_low gb.pos gb.low).1, (nr_low gb.pos gb.low).2] at this
    exact this
  have e4 : sSet 4 (cMake 0 2 φ_Ratio_init [] (cAd (cIx (cV 1) (cK (.int 0))) (cAd (cIx (cV 1) (cK (.int 1))) (cA0)))) [.val S, .val (pr a0 a1), .val (pr b0 b1), .val (.int k), .un, .un, .un, .un, .un, .un, .un, .un] = .nx [.val S, .val (pr a0 a1), .val (pr b0 b1), .val (.int k), .val (ob a0 a1), .un, .un, .un, .un, .un, .un, .un] :=
    set_at (e1 := [.val S, .val (pr a0 a1), .val (pr b0 b1), .val (.int k), .un, .un, .un, .un, .un, .un, .un, .un]) (make_at rfl (Ma _)) rfl
  have e5 : sSet 5 (cMake 0 2 φ_Ratio_init [] (cAd (cIx (cV 2) (cK (.int 0))) (cAd (cIx (cV 2) (cK (.int 1))) (cA0)))) [.val S, .val (pr a0 a1), .val (pr b0 b1), .val (.int k), .val (ob a0 a1), .un, .un, .un, .un, .un, .un, .un] = .nx [.val S, .val (pr a0 a1), .val (pr b0 b1), .val (.int k), .val (ob a0 a1), .val (ob b0 b1), .un, .un, .un, .un, .un, .un] :=
    set_at (e1 := [.val S, .val (pr a0 a1), .val (pr b0 b1), .val (.int k), .val (ob a0 a1), .un, .un, .un, .un, .un, .un, .un]) (make_at rfl (Mb _)) rfl
  have e6 : sSet 6 (cTup (cAd (cNegM ((0, φ_Ratio_neg) :: []) (cIx (cV 2) (cK (.int 0)))) (cAd (cIx (cV 2) (cK (.int 1))) (cA0)))) [.val S, .val (pr a0 a1), .val (pr b0 b1), .val (.int k), .val (ob a0 a1), .val (ob b0 b1), .un, .un, .un, .un, .un, .un] = .nx (E6 S a0 a1 b0 b1 k .un .un) := rfl
  obtain ⟨p1, l1, g1, s7, s8⟩ := seven (S := S) (k := k) ga gb
  obtain ⟨p2, l2, g2, s9⟩ := inv_part (S := S) (k := k) ga gb (ps := p1) (by omega) g1
  obtain ⟨p3, l3, g3, s10⟩ := pow_part (S := S) (k := k) (b0 := b0) (b1 := b1) ga (ps := p2) l2 g2 (by omega) (by omega)
  obtain ⟨p4, l4, g4, x1, x2, x3, s11, s12, s13, s14⟩ := tot_part (S := S) (k := k) ga gb (ps := p3) l3 g3
  obtain ⟨z, s15⟩ := pairs_loop g4 (by omega) (.val S) (.val (pr a0 a1)) (.val (pr b0 b1)) (.val (.int k)) (.val (ob a0 a1)) (.val (ob b0 b1)) (.val (pr (-b0) b1)) .un .un
  obtain ⟨u, hu⟩ : ∃ u, u = SV.own false (.l (dueL p4)) := ⟨_, rfl⟩
  obtain ⟨v, hv⟩ : ∃ v, v = SV.own false (.l (tolL p4)) := ⟨_, rfl⟩
  rw [← hu, ← hv] at s15 s14
  have m1 := mul_ii (ga.bx.ok gb.bY (by omega))
  have m2 := mul_ii (gb.bx.ok ga.bY (by omega))
  have s16 : sSet 10 (two (pOwn ((0, φ_Ratio_sub) :: []) pSubI) (two (pOwn ((0, φ_Ratio_mul) :: []) pMul) (cIx (cV 1) (cK (.int 0))) (cIx (cV 2) (cK (.int 1)))) (two (pOwn ((0, φ_Ratio_mul) :: []) pMul) (cIx (cV 2) (cK (.int 0))) (cIx (cV 1) (cK (.int 1))))) [.val S, .val (pr a0 a1), .val (pr b0 b1), .val (.int k), .val (ob a0 a1), .val (ob b0 b1), .val (pr (-b0) b1), u, v, z, .un, .un] = .nx [.val S, .val (pr a0 a1), .val (pr b0 b1), .val (.int k), .val (ob a0 a1), .val (ob b0 b1), .val (pr (-b0) b1), u, v, z, .val (.int (a0 * b1 - b0 * a1)), .un] :=
    set_at (e1 := [.val S, .val (pr a0 a1), .val (pr b0 b1), .val (.int k), .val (ob a0 a1), .val (ob b0 b1), .val (pr (-b0) b1), u, v, z, .un, .un]) (own_ii (own_ii rfl rfl m1) (own_ii rfl rfl m2) (sub_ii _ _)) rfl
  have C1 := r_cmp ga.bx ga.bY gb.bx gb.bY (by omega)
  obtain ⟨E, hE⟩ : ∃ E, E = [SV.val S, .val (pr a0 a1), .val (pr b0 b1), .val (.int k), .val (ob a0 a1), .val (ob b0 b1), .val (pr (-b0) b1), u, v, z, .val (.int (a0 * b1 - b0 * a1)), .un] := ⟨_, rfl⟩
  rw [← hE] at s16
  have v1 : cIx (cV 1) (cK (.int 0)) E = .ok (.d (.int a0)) E := by subst hE; rfl
  have v4 : cV 4 E = .ok (.d (ob a0 a1)) E := by subst hE; rfl
  have v5 : cV 5 E = .ok (.d (ob b0 b1)) E := by subst hE; rfl
  have v10 : cV 10 E = .ok (.d (.int (a0 * b1 - b0 * a1))) E := by subst hE; rfl
  have s17 : sIf (cOrT (cTr (cOp (pEq true) (cMeth 0 φ_Ratio_compare [] (cV 4) (cAd (cV 5) (cA0))) (cOp pSubI (cBi bInt (cAd (cOp (pGt) (cV 10) (cK (.int 0))) (cA0))) (cBi bInt (cAd (cOp (pLt) (cV 10) (cK (.int 0))) (cA0)))))) (cTr (cOp (pEq true) (cMeth 0 φ_Ratio_sign [] (cV 4) cA0) (cOp pSubI (cBi bInt (cAd (cOp (pGt) (cIx (cV 1) (cK (.int 0))) (cK (.int 0))) (cA0))) (cBi bInt (cAd (cOp (pLt) (cIx (cV 1) (cK (.int 0))) (cK (.int 0))) (cA0))))))) (sRet (cK (.bl false))) (sNx) E = .nx E :=
    if_fn (or_f (ne_same (meth_at v4 (ad_at v5 a0_at) (call_2 C1)) (sg_at v10)) (ne_same (meth_at v4 a0_at (call_1 r_sign)) (sg_at v1)))
  obtain ⟨f1, f2, f3⟩ := floor_ok (a := a0) ga.pos
  obtain ⟨low, hlow⟩ : ∃ l, l = a0.fdiv a1 := ⟨_, rfl⟩
  have fl := r_floor (a := a0) ga.ne
  rw [← hlow] at f1 f2 f3 fl
  have bl : Bd 1048576 low := Nat.lt_of_le_of_lt f3 ga.bx
  obtain ⟨F, hF⟩ : ∃ F, F = E.set 11 (.val (.int low)) := ⟨_, rfl⟩
  have s18 : sSet 11 (cMeth 0 φ_Ratio_floor [] (cV 4) cA0) E = .nx F := by
    rw [hF]
    exact set_at (meth_at v4 a0_at (call_1 fl)) (by subst hE; rfl)
  have hF' : F = [SV.val S, .val (pr a0 a1), .val (pr b0 b1), .val (.int k), .val (ob a0 a1), .val (ob b0 b1), .val (pr (-b0) b1), u, v, z, .val (.int (a0 * b1 - b0 * a1)), .val (.int low)] := by rw [hF, hE]; rfl
  have w1 : cIx (cV 1) (cK (.int 0)) F = .ok (.d (.int a0)) F := by rw [hF']; rfl
  have w1' : cIx (cV 1) (cK (.int 1)) F = .ok (.d (.int a1)) F := by rw [hF']; rfl
  have w4 : cV 4 F = .ok (.d (ob a0 a1)) F := by rw [hF']; rfl
  have w5 : cV 5 F = .ok (.d (ob b0 b1)) F := by rw [hF']; rfl
  have wA : cV 1 F = .ok (.d (pr a0 a1)) F := by rw [hF']; rfl
  have wB : cV 2 F = .ok (.d (pr b0 b1)) F := by rw [hF']; rfl
  have w11 : cV 11 F = .ok (.d (.int low)) F := by rw [hF']; rfl
  have kf : ∀ d : D, cK d F = .ok (.d d) F := fun d => rfl
  have m3 := mul_ii (bl.ok ga.bY (by omega))
  have m4 := mul_ii ((bl.add (Bd.one.mono (by omega))).ok ga.bY (by omega))
  have ch : cCh (pLe) (pLt) (two (pOwn ((0, φ_Ratio_mul) :: []) pMul) (cV 11) (cIx (cV 1) (cK (.int 1)))) (cIx (cV 1) (cK (.int 0))) (cOp pMul (cOp pAdd (cV 11) (cK (.int 1))) (cIx (cV 1) (cK (.int 1)))) F = .ok (.d (.bl true)) F :=
    ch_at (own_ii w11 w1' m3) w1 (op_at (op_at w11 (kf _) (add_ii _ _)) w1' m4) (by rw [le_ii, decide_eq_true f1]) (by rw [lt_ii, decide_eq_true f2])
  have s19 : sIf (cOrT (cNotT (cTr (cCall φ_law_is_integer [] (cAd (cV 11) (cA0))))) (cNotT (cTr (cCh (pLe) (pLt) (two (pOwn ((0, φ_Ratio_mul) :: []) pMul) (cV 11) (cIx (cV 1) (cK (.int 1)))) (cIx (cV 1) (cK (.int 0))) (cOp pMul (cOp pAdd (cV 11) (cK (.int 1))) (cIx (cV 1) (cK (.int 1)))))))) (sRet (cK (.bl false))) (sNx) F = .nx F :=
    if_fn (or_f (nott_at (call_at (ad_at w11 a0_at) (call_1 (l_isint low)))) (nott_at ch))
  have wp := prop_at (φ := φ_Ratio_whole) w4 (r_whole (a := a0) (b := a1))
  have isi : cIsi [(0, false), (1, true), (2, false), (3, false), (4, false), (5, false), (10 + 0, false)] (cProp 0 φ_Ratio_whole (cV 4)) F = .ok (.d (.bl true)) F := by
    unfold cIsi
    rw [wp]
    rfl
  have s20 : sIf (cOrT (cTr (two (pEqM true ((0, φ_Ratio_eq, [0, 1, 2, 3, 4, 5, 10]) :: []) (pEq true)) (cProp 0 φ_Ratio_whole (cV 4)) (two (pEqM false ((0, φ_Ratio_eq, [0, 1, 2, 3, 4, 5, 10]) :: []) (orP pEqX (pEq false))) (cIx (cV 1) (cK (.int 1))) (cK (.int 1))))) (cOrT (cNotT (cTr (cIsi [(0, false), (1, true), (2, false), (3, false), (4, false), (5, false), (10 + 0, false)] (cProp 0 φ_Ratio_whole (cV 4))))) (cTr (cOp (pEq true) (cMeth 0 φ_Ratio_is_zero [] (cV 4) cA0) (two (pEqM false ((0, φ_Ratio_eq, [0, 1, 2, 3, 4, 5, 10]) :: []) (orP pEqX (pEq false))) (cIx (cV 1) (cK (.int 0))) (cK (.int 0))))))) (sRet (cK (.bl false))) (sNx) F = .nx F :=
    if_fn (or_f (neb_same wp (eqi_at w1' (kf _))) (or_f (nott_at isi) (neb_same' (meth_at w4 a0_at (call_1 r_zero)) (eqi_at w1 (kf _)))))
  refine ⟨[], fnF_rt (e := [.val S, .un, .un, .un, .un, .un, .un, .un, .un, .un, .un, .un]) (e1 := F) rfl rfl ?_ (outsA_val [S] 0 F)⟩
  unfold g_law
  rw [seq_nx e1, seq_nx e2, seq_nx e3, seq_nx e4, seq_nx e5, seq_nx e6, seq_nx s7, seq_nx s8, seq_nx s9, seq_nx s10, seq_nx s11, seq_nx s12, seq_nx s13]
  refine (seq_nx s14).trans ((seq_nx s15).trans ((seq_nx s16).trans ((seq_nx s17).trans ((seq_nx s18).trans ((seq_nx s19).trans ((seq_nx s20).trans ?_))))))
  refine ret_at (and_at (eqp_at (call_at (ad_at w4 a0_at) (call_1 (l_pair ga.pos ga.low))) wA) (and_at (eqp_at (call_at (ad_at w5 a0_at) (call_1 (l_pair gb.pos gb.low))) wB) (call_at (ad_at w4 a0_at) (call_1 (l_noinv ga (by omega))))))
end L2.S.W

set_option Elab.async false
set_option maxRecDepth 100000
open PySem PySem.W PyProof.Rows L2 L2.S L2.S.W

set_option maxRecDepth 100000 in
set_option maxHeartbeats 0 in
theorem PySem.Challenge.cw_seriesroads_k01_arithmetic_holds : PySem.Challenge.rw_seriesroads_k01_arithmetic.Holds := by
  w_on; o_law; x_head; (case hw => w_witness2)
  k_fill
  refine L2.S.walk_S (l := PySem.Challenge.rw_seriesroads_k01_arithmetic) (k := 55) (φ := L2.S.W.φ_law) rfl rfl ⟨rfl, by decide, by decide⟩ (fun w h Y => PySem.W.kIn_of Y) L2.S.W.the_law ?F
  case F =>
    intro w mg fa h KX G hmg
    refine' all_mk KX G hmg ?s1 ?s2 ?s3 ?s4 ?s5 ?s6 ?s7 ?h_m_total ?h_m__law_cell ?h_m__law_odd ?h_m__law_honest ?h_m__law_draws ?h_m__law_gcd ?h_m__law_rat ?h_m__law_add ?h_m__law_mul ?h_m__law_is_integer ?h_m__law_pair ?h_m__law_drawn ?h_m__law_power ?h_m__law_no_inverse ?h_m_law ?h_m_Fault ?h_m_ZeroDivisor ?h_m_Ratio ?h_m_gcd ?h_z_isinstance ?h_z_len ?h_z_list ?h_z_tuple ?h_z_range ?h_z_int ?h_z_abs ?h_z_bool ?h_in_Ratio ?h_op_Ratio_eq ?h_op_Ratio_add ?h_me_Ratio_inverse ?h_me_Ratio_power ?h_op_Ratio_neg ?h_me_Ratio_over ?h_pa_Ratio_whole ?h_me_Ratio_is_zero ?h_op_Ratio_mul ?h_me_Ratio_floor ?h_me_Ratio_compare ?h_me_Ratio_sign ?h_op_Ratio_sub ?h_pd_Ratio_whole ?h_l_Ratio_eq ?h_l_Ratio_init ?h_l_Ratio_add ?h_l_total ?h_l_law_cell ?h_l_law_odd ?h_l_law_honest ?h_l_law_draws ?h_l_law_gcd ?h_l_law_rat ?h_l_law_add ?h_l_law_mul ?h_l_law_is_integer ?h_l_law_pair ?h_l_law_drawn ?h_l_law_power ?h_l_Ratio_inverse ?h_l_Ratio_over ?h_l_Ratio_neg ?h_l_Ratio_power ?h_l_law_no_inverse ?h_l_Ratio_sub ?h_l_Ratio_mul ?h_l_Ratio_compare ?h_l_Ratio_sign ?h_l_Ratio_floor ?h_l_Ratio_is_zero ?h_l_Ratio_whole ?h_l_law ?h_c_Ratio_eq ?h_k_Ratio_eq ?h_c_Ratio_init ?h_d_Ratio_init ?h_v_Ratio_init ?h_k_Ratio_init ?h_c_Ratio_add ?h_k_Ratio_add ?h_c_total ?h_k_total ?h_c_law_cell ?h_k_law_cell ?h_c_law_odd ?h_k_law_odd ?h_c_law_honest ?h_k_law_honest ?h_c_law_draws ?h_k_law_draws ?h_c_law_gcd ?h_k_law_gcd ?h_c_law_rat ?h_k_law_rat ?h_c_law_add ?h_k_law_add ?h_c_law_mul ?h_k_law_mul ?h_c_law_is_integer ?h_k_law_is_integer ?h_c_law_pair ?h_k_law_pair ?h_c_law_drawn ?h_k_law_drawn ?h_c_law_power ?h_k_law_power ?h_c_Ratio_inverse ?h_k_Ratio_inverse ?h_c_Ratio_over ?h_k_Ratio_over ?h_c_Ratio_neg ?h_k_Ratio_neg ?h_c_Ratio_power ?h_k_Ratio_power ?h_c_law_no_inverse ?h_k_law_no_inverse ?h_c_Ratio_sub ?h_k_Ratio_sub ?h_c_Ratio_mul ?h_k_Ratio_mul ?h_c_Ratio_compare ?h_k_Ratio_compare ?h_c_Ratio_sign ?h_k_Ratio_sign ?h_c_Ratio_floor ?h_k_Ratio_floor ?h_c_Ratio_is_zero ?h_k_Ratio_is_zero ?h_c_Ratio_whole ?h_k_Ratio_whole ?h_c_law ?h_k_law ?h_mk_Ratio ?h_kc_Ratio ?h_xi_ZeroDivisor ?h_kx_ZeroDivisor ?h_sx_ZeroDivisor ?h_tx_ZeroDivisor ?h_is_Ratio_Ratio ?h_ca_Ratio ?h_cn_ ?h_ct_ ?h_ob_Ratio ?h_pg_Ratio ?h_hd_Ratio ?h_po_Ratio ?h_sa_Ratio ?h_na_Ratio_n ?h_na_Ratio_d ?h_is_Ratio_5 ?h_is_Ratio_4 ?h_is_Ratio_3 ?h_is_Ratio_2 ?h_is_Ratio_1 ?h_is_Ratio_0 ?h_fn_Ratio_eq ?h_ne_Ratio ?h_nf_Ratio_0 ?h_nf_Ratio_1 ?h_nf_Ratio_2 ?h_nf_Ratio_3 ?h_nf_Ratio_4 ?h_nf_Ratio_5 ?h_nf_Ratio_Ratio ?h_fn_Ratio_add ?h_sf_Ratio ?h_is_tuple_list_Ratio ?h_is_int_Ratio ?h_is_bool_Ratio ?h_fn_Ratio_inverse ?h_fn_Ratio_power ?h_fn_Ratio_neg ?h_em_ZeroDivisor_ZeroDivisor ?h_em_Fault_ZeroDivisor ?h_fn_Ratio_over ?h_pb_Ratio_whole ?h_pc_Ratio_whole ?h_fn_Ratio_is_zero ?h_fn_Ratio_mul ?h_fn_Ratio_floor ?h_fn_Ratio_compare ?h_fn_Ratio_sign ?h_fn_Ratio_sub ?h_fn_Ratio_init
    (case s1 => k_is)
    (case s2 => k_is)
    (case s3 => k_is)
    (case s4 => k_is)
    (case s5 => kernel_rfl)
    (case s6 => k_is)
    (case s7 => k_is)
    (case h_m_total => k_is)
    (case h_m__law_cell => k_is)
    (case h_m__law_odd => k_is)
    (case h_m__law_honest => k_is)
    (case h_m__law_draws => k_is)
    (case h_m__law_gcd => k_is)
    (case h_m__law_rat => k_is)
    (case h_m__law_add => k_is)
    (case h_m__law_mul => k_is)
    (case h_m__law_is_integer => k_is)
    (case h_m__law_pair => k_is)
    (case h_m__law_drawn => k_is)
    (case h_m__law_power => k_is)
    (case h_m__law_no_inverse => k_is)
    (case h_m_law => k_is)
    (case h_m_Fault => k_is)
    (case h_m_ZeroDivisor => k_is)
    (case h_m_Ratio => k_is)
    (case h_m_gcd => k_is)
    (case h_z_isinstance => k_is)
    (case h_z_len => k_is)
    (case h_z_list => k_is)
    (case h_z_tuple => k_is)
    (case h_z_range => k_is)
    (case h_z_int => k_is)
    (case h_z_abs => k_is)
    (case h_z_bool => k_is)
    (case h_in_Ratio => k_is)
    (case h_op_Ratio_eq => k_is)
    (case h_op_Ratio_add => k_is)
    (case h_me_Ratio_inverse => k_is)
    (case h_me_Ratio_power => k_is)
    (case h_op_Ratio_neg => k_is)
    (case h_me_Ratio_over => k_is)
    (case h_pa_Ratio_whole => k_is)
    (case h_me_Ratio_is_zero => k_is)
    (case h_op_Ratio_mul => k_is)
    (case h_me_Ratio_floor => k_is)
    (case h_me_Ratio_compare => k_is)
    (case h_me_Ratio_sign => k_is)
    (case h_op_Ratio_sub => k_is)
    (case h_pd_Ratio_whole => k_is)
    (case h_l_Ratio_eq => k_is)
    (case h_l_Ratio_init => k_is)
    (case h_l_Ratio_add => k_is)
    (case h_l_total => k_is)
    (case h_l_law_cell => k_is)
    (case h_l_law_odd => k_is)
    (case h_l_law_honest => k_is)
    (case h_l_law_draws => k_is)
    (case h_l_law_gcd => k_is)
    (case h_l_law_rat => k_is)
    (case h_l_law_add => k_is)
    (case h_l_law_mul => k_is)
    (case h_l_law_is_integer => k_is)
    (case h_l_law_pair => k_is)
    (case h_l_law_drawn => k_is)
    (case h_l_law_power => k_is)
    (case h_l_Ratio_inverse => k_is)
    (case h_l_Ratio_over => k_is)
    (case h_l_Ratio_neg => k_is)
    (case h_l_Ratio_power => k_is)
    (case h_l_law_no_inverse => k_is)
    (case h_l_Ratio_sub => k_is)
    (case h_l_Ratio_mul => k_is)
    (case h_l_Ratio_compare => k_is)
    (case h_l_Ratio_sign => k_is)
    (case h_l_Ratio_floor => k_is)
    (case h_l_Ratio_is_zero => k_is)
    (case h_l_Ratio_whole => k_is)
    (case h_l_law => k_is)
    (case h_c_Ratio_eq => k_is)
    (case h_k_Ratio_eq => k_is)
    (case h_c_Ratio_init => k_is)
    (case h_d_Ratio_init => k_is)
    (case h_v_Ratio_init => exact (.cons ⟨_, rfl⟩ .nil))
    (case h_k_Ratio_init => k_is)
    (case h_c_Ratio_add => k_is)
    (case h_k_Ratio_add => k_is)
    (case h_c_total => k_is)
    (case h_k_total => k_is)
    (case h_c_law_cell => k_is)
    (case h_k_law_cell => k_is)
    (case h_c_law_odd => k_is)
    (case h_k_law_odd => k_is)
    (case h_c_law_honest => k_is)
    (case h_k_law_honest => k_is)
    (case h_c_law_draws => k_is)
    (case h_k_law_draws => k_is)
    (case h_c_law_gcd => k_is)
    (case h_k_law_gcd => k_is)
    (case h_c_law_rat => k_is)
    (case h_k_law_rat => k_is)
    (case h_c_law_add => k_is)
    (case h_k_law_add => k_is)
    (case h_c_law_mul => k_is)
    (case h_k_law_mul => k_is)
    (case h_c_law_is_integer => k_is)
    (case h_k_law_is_integer => k_is)
    (case h_c_law_pair => k_is)
    (case h_k_law_pair => k_is)
    (case h_c_law_drawn => k_is)
    (case h_k_law_drawn => k_is)
    (case h_c_law_power => k_is)
    (case h_k_law_power => k_is)
    (case h_c_Ratio_inverse => k_is)
    (case h_k_Ratio_inverse => k_is)
    (case h_c_Ratio_over => k_is)
    (case h_k_Ratio_over => k_is)
    (case h_c_Ratio_neg => k_is)
    (case h_k_Ratio_neg => k_is)
    (case h_c_Ratio_power => k_is)
    (case h_k_Ratio_power => k_is)
    (case h_c_law_no_inverse => k_is)
    (case h_k_law_no_inverse => k_is)
    (case h_c_Ratio_sub => k_is)
    (case h_k_Ratio_sub => k_is)
    (case h_c_Ratio_mul => k_is)
    (case h_k_Ratio_mul => k_is)
    (case h_c_Ratio_compare => k_is)
    (case h_k_Ratio_compare => k_is)
    (case h_c_Ratio_sign => k_is)
    (case h_k_Ratio_sign => k_is)
    (case h_c_Ratio_floor => k_is)
    (case h_k_Ratio_floor => k_is)
    (case h_c_Ratio_is_zero => k_is)
    (case h_k_Ratio_is_zero => k_is)
    (case h_c_Ratio_whole => k_is)
    (case h_k_Ratio_whole => k_is)
    (case h_c_law => k_is)
    (case h_k_law => k_is)
    (case h_mk_Ratio => k_is)
    (case h_kc_Ratio => k_is)
    (case h_xi_ZeroDivisor => first | k_is | rfl | kernel_rfl)
    (case h_kx_ZeroDivisor => k_is)
    (case h_sx_ZeroDivisor => k_is)
    (case h_tx_ZeroDivisor => k_is)
    (case h_is_Ratio_Ratio => first | k_is | rfl | kernel_rfl)
    (case h_ca_Ratio => k_is)
    (case h_cn_ => k_is)
    (case h_ct_ => k_is)
    (case h_ob_Ratio => k_is)
    (case h_pg_Ratio => k_is)
    (case h_hd_Ratio => k_is)
    (case h_po_Ratio => k_is)
    (case h_sa_Ratio => k_is)
    (case h_na_Ratio_n => k_is)
    (case h_na_Ratio_d => k_is)
    (case h_is_Ratio_5 => first | k_is | rfl | kernel_rfl)
    (case h_is_Ratio_4 => first | k_is | rfl | kernel_rfl)
    (case h_is_Ratio_3 => first | k_is | rfl | kernel_rfl)
    (case h_is_Ratio_2 => first | k_is | rfl | kernel_rfl)
    (case h_is_Ratio_1 => first | k_is | rfl | kernel_rfl)
    (case h_is_Ratio_0 => first | k_is | rfl | kernel_rfl)
    (case h_fn_Ratio_eq => k_is)
    (case h_ne_Ratio => k_is)
    (case h_nf_Ratio_0 => first | k_is | rfl | kernel_rfl)
    (case h_nf_Ratio_1 => first | k_is | rfl | kernel_rfl)
    (case h_nf_Ratio_2 => first | k_is | rfl | kernel_rfl)
    (case h_nf_Ratio_3 => first | k_is | rfl | kernel_rfl)
    (case h_nf_Ratio_4 => first | k_is | rfl | kernel_rfl)
    (case h_nf_Ratio_5 => first | k_is | rfl | kernel_rfl)
    (case h_nf_Ratio_Ratio => first | k_is | rfl | kernel_rfl)
    (case h_fn_Ratio_add => k_is)
    (case h_sf_Ratio => k_is)
    (case h_is_tuple_list_Ratio => first | k_is | rfl | kernel_rfl)
    (case h_is_int_Ratio => first | k_is | rfl | kernel_rfl)
    (case h_is_bool_Ratio => first | k_is | rfl | kernel_rfl)
    (case h_fn_Ratio_inverse => k_is)
    (case h_fn_Ratio_power => k_is)
    (case h_fn_Ratio_neg => k_is)
    (case h_em_ZeroDivisor_ZeroDivisor => first | k_is | rfl | kernel_rfl)
    (case h_em_Fault_ZeroDivisor => first | k_is | rfl | kernel_rfl)
    (case h_fn_Ratio_over => k_is)
    (case h_pb_Ratio_whole => k_is)
    (case h_pc_Ratio_whole => k_is)
    (case h_fn_Ratio_is_zero => k_is)
    (case h_fn_Ratio_mul => k_is)
    (case h_fn_Ratio_floor => k_is)
    (case h_fn_Ratio_compare => k_is)
    (case h_fn_Ratio_sign => k_is)
    (case h_fn_Ratio_sub => k_is)
    (case h_fn_Ratio_init => k_is)
#print axioms PySem.Challenge.cw_seriesroads_k01_arithmetic_holds
