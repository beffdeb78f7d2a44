import PyProof.Rows.All
import Wide.All
import OpenK.AllK
import Wide.FinOn
import HandS.ForMost
import HandS.Exc
import HandS.TryOnly
import HandS.TryMany
import HandS.ExcOwn
import HandS.WordsExc
import HandS.Wide
import HandS.WideBits
import HandS.Gcd
import HandS.OwnEq
import HandS.Property
import HandS.IsInst
import HandS.Flow
import HandS.Conv
import HandS.TupMul
import HandS.Style
import HandS.StrMore
import KE.KOpsOwn
import HandS.SlotsOwn
import HandS.ExcField
import HandS.Defaults
import HandS.CallRecv
import HandS.EndBits
import HandS.ExcIs
import KE.KExcIs
import HandS.Text
import HandS.Zip
import HandS.Deep
import OpenK.XHead
import PySem.Challenge.RW_seriesroads_k05_kernel_vectors
set_option Elab.async false
set_option linter.all false
set_option maxRecDepth 100000
set_option maxHeartbeats 4000000
namespace L2.S
open PySem PySem.Spec PyProof.Rows

inductive D where
  | non | bl (b : Bool) | int (i : Int) | str (l : List Nat)
  | tup (xs : List D) | lst (xs : List D) | ro (xs : List D) | obj (c : Nat) (xs : List D) | fn (k : Nat) | ty (n : String) | cls (c : Nat) | exv (a : Addr) (d : Option Addr) (c : Nat) (xs : List D)
inductive OB where
  | l (xs : List D) | s (c : Nat) (xs : List D)
inductive SV where
  | un | val (d : D) | own (b : Bool) (o : OB)
inductive RV where
  | d (d : D) | o (o : OB)
structure Ex where
  c : Nat
  fs : List D
abbrev Env' := List SV
inductive R where
  | ok (r : RV) (e : Env') | ex (x : Ex) (e : Env') | no
inductive AV where
  | d (d : D) | s (i : Nat)
inductive RA where
  | ok (as : List AV) (e : Env') | ex (x : Ex) (e : Env') | no
inductive RT where
  | ok (b : Bool) (e : Env') | ex (x : Ex) (e : Env') | no
inductive RS where
  | nx (e : Env') | bk (e : Env') | ct (e : Env') | rt (r : RV) (e : Env') | ex (x : Ex) (e : Env') | no
inductive RD where
  | ok (r : RV) (outs : List OB) | ex (x : Ex) (outs : List OB) | no

structure Tb where
  K : PySem.W.Frag
  cl : Nat → Addr
  fl : Nat → List Str
  ec : Nat → Addr
  ef : Nat → List Str
  fn : Nat → Addr

mutual
inductive Rep (T : Tb) (Z : Hp) : V → D → Prop
  | non : Rep T Z .non .non
  | bl (b : Bool) : Rep T Z (.bl b) (.bl b)
  | int (i : Int) : Rep T Z (.int i) (.int i)
  | str (l : List Nat) : Rep T Z (.str ⟨l.toArray⟩) (.str l)
  | tup {a : Addr} {vs : List V} {ds : List D} (h : SqT T.K Z a vs) (r : Reps T Z vs ds) : Rep T Z (.ref a) (.tup ds)
  | lst {a : Addr} {vs : List V} {ds : List D} (h : Z a = some (.lst vs)) (r : Reps T Z vs ds) : Rep T Z (.ref a) (.lst ds)
  | ro {a : Addr} {vs : List V} {ds : List D} (h : SqL T.K Z a vs) (r : Reps T Z vs ds) : Rep T Z (.ref a) (.ro ds)
  | obj {a dx : Addr} {vs : List V} {c : Nat} {ds : List D} (h : Z a = some (.ins (T.cl c) dx ((T.fl c).zip vs))) (n : vs.length = (T.fl c).length) (r : Reps T Z vs ds) : Rep T Z (.ref a) (.obj c ds)
  | fn (k : Nat) : Rep T Z (.ref (T.fn k)) (.fn k)
  | ty (n : String) : Rep T Z (.ty n) (.ty n)
  | cls (k : Nat) : Rep T Z (.ref (T.cl k)) (.cls k)
  | exv0 {a : Addr} {c : Nat} : Rep T Z (.ref a) (.exv a none c [])
  | exv {a dd : Addr} {vs : List V} {c : Nat} {ds : List D} (h : Z dd = some (.xd ((T.ef c).zip vs))) (n : vs.length = (T.ef c).length) (r : Reps T Z vs ds) : Rep T Z (.ref a) (.exv a (some dd) c ds)
inductive Reps (T : Tb) (Z : Hp) : List V → List D → Prop
  | nil : Reps T Z [] []
  | cons {v : V} {d : D} {vs : List V} {ds : List D} (h : Rep T Z v d) (r : Reps T Z vs ds) : Reps T Z (v :: vs) (d :: ds)
end
theorem sqt_mono {K : PySem.W.Frag} {Z Z' : Hp} {a : Addr} {vs : List V} (s : Same Z Z') (h : SqT K Z a vs) : SqT K Z' a vs := by
  rcases h with (h | ⟨o, h⟩) | h
  · exact .inl (.inl (s _ _ h))
  · exact .inl (.inr ⟨o, s _ _ h⟩)
  · exact .inr h
mutual
theorem Rep.mono {T : Tb} {Z Z' : Hp} (s : Same Z Z') : ∀ {v : V} {d : D}, Rep T Z v d → Rep T Z' v d
  | _, _, .non => .non
  | _, _, .bl b => .bl b
  | _, _, .int i => .int i
  | _, _, .str l => .str l
  | _, _, .tup h r => .tup (sqt_mono s h) (Reps.mono s r)
  | _, _, .lst h r => .lst (s _ _ h) (Reps.mono s r)
  | _, _, .ro h r => .ro (s.seq h) (Reps.mono s r)
  | _, _, .obj h n r => .obj (s _ _ h) n (Reps.mono s r)
  | _, _, .fn k => .fn k
  | _, _, .ty k => .ty k
  | _, _, .cls k => .cls k
  | _, _, .exv0 => .exv0
  | _, _, .exv h n r => .exv (s _ _ h) n (Reps.mono s r)
theorem Reps.mono {T : Tb} {Z Z' : Hp} (s : Same Z Z') : ∀ {vs : List V} {ds : List D}, Reps T Z vs ds → Reps T Z' vs ds
  | _, _, .nil => .nil
  | _, _, .cons h r => .cons (Rep.mono s h) (Reps.mono s r)
end
section
variable {T : Tb} {Z : Hp}
theorem Reps.length : ∀ {vs : List V} {ds : List D}, Reps T Z vs ds → vs.length = ds.length
  | _, _, .nil => rfl
  | _, _, .cons _ r => by rw [List.length_cons, List.length_cons, Reps.length r]
theorem Reps.get : ∀ {vs : List V} {ds : List D} {i : Nat} {d : D}, Reps T Z vs ds → ds[i]? = some d → ∃ v, vs[i]? = some v ∧ Rep T Z v d
  | _, _, i, _, .nil, h => by simp at h
  | _, _, 0, _, .cons h r, e => by simp at e; subst e; exact ⟨_, rfl, h⟩
  | _, _, i + 1, _, .cons h r, e => by
    obtain ⟨v, h1, h2⟩ := Reps.get (i := i) r (by simpa using e)
    exact ⟨v, by simpa using h1, h2⟩
theorem Reps.get' : ∀ {vs : List V} {ds : List D} {i : Nat} {v : V}, Reps T Z vs ds → vs[i]? = some v → ∃ d, ds[i]? = some d ∧ Rep T Z v d
  | _, _, i, _, .nil, h => by simp at h
  | _, _, 0, _, .cons h r, e => by simp at e; subst e; exact ⟨_, rfl, h⟩
  | _, _, i + 1, _, .cons h r, e => by
    obtain ⟨v, h1, h2⟩ := Reps.get' (i := i) r (by simpa using e)
    exact ⟨v, by simpa using h1, h2⟩
theorem Reps.append : ∀ {vs ws : List V} {ds es : List D}, Reps T Z vs ds → Reps T Z ws es → Reps T Z (vs ++ ws) (ds ++ es)
  | _, _, _, _, .nil, q => q
  | _, _, _, _, .cons h r, q => .cons h (Reps.append r q)
theorem Reps.set {v : V} {d : D} (h : Rep T Z v d) : ∀ {vs : List V} {ds : List D} (i : Nat), Reps T Z vs ds → Reps T Z (vs.set i v) (ds.set i d)
  | _, _, _, .nil => .nil
  | _, _, 0, .cons _ r => .cons h r
  | _, _, i + 1, .cons g r => .cons g (Reps.set h i r)
theorem Reps.take : ∀ {vs : List V} {ds : List D} (n : Nat), Reps T Z vs ds → Reps T Z (vs.take n) (ds.take n)
  | _, _, 0, _ => .nil
  | _, _, _ + 1, .nil => .nil
  | _, _, n + 1, .cons h r => .cons h (Reps.take n r)
theorem Reps.drop : ∀ {vs : List V} {ds : List D} (n : Nat), Reps T Z vs ds → Reps T Z (vs.drop n) (ds.drop n)
  | _, _, 0, r => r
  | _, _, _ + 1, .nil => .nil
  | _, _, n + 1, .cons _ r => Reps.drop n r
theorem Reps.reverse {vs : List V} {ds : List D} (r : Reps T Z vs ds) : Reps T Z vs.reverse ds.reverse := by
  induction vs generalizing ds with
  | nil => cases r; exact .nil
  | cons v vs ih =>
    cases r with
    | cons h r =>
      rw [List.reverse_cons, List.reverse_cons]
      exact (ih r).append (.cons h .nil)
end

def ORep (T : Tb) (Z : Hp) (h : HO) : OB → Prop
  | .l xs => ∃ vs, h = .lst vs ∧ Reps T Z vs xs
  | .s c xs => ∃ dx vs, h = .ins (T.cl c) dx ((T.fl c).zip vs) ∧ vs.length ≤ (T.fl c).length ∧ Reps T Z vs xs
theorem ORep.mono {T : Tb} {Z Z' : Hp} (s : Same Z Z') {h : HO} : ∀ {o : OB}, ORep T Z h o → ORep T Z' h o
  | .l _, ⟨vs, e, r⟩ => ⟨vs, e, r.mono s⟩
  | .s _ _, ⟨dx, vs, e, n, r⟩ => ⟨dx, vs, e, n, r.mono s⟩
structure Gd where
  g : Hp
  z : Hp
def Own (σ : St) (env : Env') (i : Nat) (a : Addr) : Prop := (∃ b o, env[i]? = some (.own b o)) ∧ σ[i]? = some (some (.ref a))
structure EOk (T : Tb) (G : Gd) (B : List (Nat × Addr)) (Z H : Hp) (σ : St) (env : Env') : Prop where
  len : σ.length = env.length
  sub : Same Z H
  nof : ∀ a, G.g a ≠ none → G.z a = none → Z a = none
  keep : ∀ a o, G.g a = some o → (∀ i, (i, a) ∉ B) → H a = some o
  val : ∀ (i : Nat) (d : D), env[i]? = some (.val d) → ∃ v, σ[i]? = some (some v) ∧ Rep T Z v d
  own : ∀ (i : Nat) (b : Bool) (o : OB), env[i]? = some (.own b o) → ∃ a h, σ[i]? = some (some (.ref a)) ∧ H a = some h ∧ ORep T Z h o ∧ Z a = none ∧ ((b = true ∧ (i, a) ∈ B) ∨ (b = false ∧ G.g a = none))
  bor : ∀ (i : Nat) (a : Addr), (i, a) ∈ B → (∃ o, env[i]? = some (.own true o)) ∧ σ[i]? = some (some (.ref a))
  dis : ∀ i j a, i ≠ j → Own σ env i a → ¬ Own σ env j a
def RRep (T : Tb) (G : Gd) (Z H : Hp) (σ : St) (env : Env') (v : V) : RV → Prop
  | .d d => Rep T Z v d
  | .o o => ∃ a h, v = .ref a ∧ H a = some h ∧ ORep T Z h o ∧ Z a = none ∧ G.g a = none ∧ ∀ i, ¬ Own σ env i a
def XRep (T : Tb) (Z H : Hp) (cls : Value) (d : Option Addr) (x : Ex) : Prop :=
  cls = .ref (T.ec x.c) ∧ ((T.ef x.c = [] ∧ x.fs = [] ∧ d = none) ∨ (∃ dd vs, T.ef x.c ≠ [] ∧ d = some dd ∧ Z dd = some (.xd ((T.ef x.c).zip vs)) ∧ vs.length = (T.ef x.c).length ∧ Reps T Z vs x.fs))

def PR (T : Tb) (W : WX) (G : Gd) (B : List (Nat × Addr)) (Z : Hp) (σ : St) (Q : VK) : R → Prop
  | .ok r e => ∀ v H' Z', Same Z Z' → EOk T G B Z' H' σ e → RRep T G Z' H' σ e v r → Q v H'
  | .ex x e => ∀ cls d H' Z', Same Z Z' → EOk T G B Z' H' σ e → XRep T Z' H' cls d x → W cls d σ H'
  | .no => False
def tX (T : Tb) (W : WX) (f : Env' → R) : TE := fun σ H Q => ∃ G B Z env, EOk T G B Z H σ env ∧ PR T W G B Z σ Q (f env)
def SE (X : Cx) (T : Tb) (W : WX) (e : Expr) (f : Env' → R) : Prop := PE X e (tX T W f)
def PRT (T : Tb) (W : WX) (G : Gd) (B : List (Nat × Addr)) (Z : Hp) (σ : St) (Q : Bool → Hp → Prop) : RT → Prop
  | .ok b e => ∀ H' Z', Same Z Z' → EOk T G B Z' H' σ e → Q b H'
  | .ex x e => ∀ cls d H' Z', Same Z Z' → EOk T G B Z' H' σ e → XRep T Z' H' cls d x → W cls d σ H'
  | .no => False
def tXT (T : Tb) (W : WX) (f : Env' → RT) : TT := fun σ H Q => ∃ G B Z env, EOk T G B Z H σ env ∧ PRT T W G B Z σ Q (f env)
def ST (X : Cx) (T : Tb) (W : WX) (e : Expr) (f : Env' → RT) : Prop := PT X e (tXT T W f)
def AVOk (T : Tb) (Z : Hp) (σ : St) : List V → List AV → Prop
  | [], [] => True
  | v :: vs, .d d :: as => Rep T Z v d ∧ AVOk T Z σ vs as
  | v :: vs, .s i :: as => σ[i]? = some (some v) ∧ AVOk T Z σ vs as
  | _, _ => False
def PRA (T : Tb) (W : WX) (G : Gd) (B : List (Nat × Addr)) (Z : Hp) (σ : St) (Q : List V → Hp → Prop) : RA → Prop
  | .ok as e => ∀ vs H' Z', Same Z Z' → EOk T G B Z' H' σ e → AVOk T Z' σ vs as → Q vs H'
  | .ex x e => ∀ cls d H' Z', Same Z Z' → EOk T G B Z' H' σ e → XRep T Z' H' cls d x → W cls d σ H'
  | .no => False
def tXA (T : Tb) (W : WX) (f : Env' → RA) : TA := fun σ H Q => ∃ G B Z env, EOk T G B Z H σ env ∧ PRA T W G B Z σ Q (f env)
def SA (X : Cx) (T : Tb) (W : WX) (es : List Expr) (f : Env' → RA) : Prop := PA X es (tXA T W f)
def PRS (T : Tb) (W : WX) (G : Gd) (B : List (Nat × Addr)) (Z : Hp) (K : Ends) : RS → Prop
  | .nx e => ∀ σ' H' Z', Same Z Z' → EOk T G B Z' H' σ' e → K.nx σ' H'
  | .bk e => ∀ σ' H' Z', Same Z Z' → EOk T G B Z' H' σ' e → K.bk σ' H'
  | .ct e => ∀ σ' H' Z', Same Z Z' → EOk T G B Z' H' σ' e → K.ct σ' H'
  | .rt r e => ∀ v σ' H' Z', Same Z Z' → EOk T G B Z' H' σ' e → RRep T G Z' H' σ' e v r → K.rt v H'
  | .ex x e => ∀ cls d σ' H' Z', Same Z Z' → EOk T G B Z' H' σ' e → XRep T Z' H' cls d x → W cls d σ' H'
  | .no => False
def tXS (T : Tb) (W : WX) (f : Env' → RS) : TS := fun K σ H => ∃ G B Z env, EOk T G B Z H σ env ∧ PRS T W G B Z K (f env)
def SS (X : Cx) (T : Tb) (W : WX) (st : Stmt) (f : Env' → RS) : Prop := PS X st (tXS T W f)
def SSs (X : Cx) (T : Tb) (W : WX) (st : List Stmt) (f : Env' → RS) : Prop := PSs X st (tXS T W f)

theorem PE.weak {X : Cx} {e : Expr} {t t' : TE} (h : PE X e t) (w : ∀ σ H Q, t' σ H Q → t σ H Q) : PE X e t' := ⟨fun pins s σ H Q I q => h.run pins s σ H Q I (w _ _ _ q)⟩
theorem PT.weak {X : Cx} {e : Expr} {t t' : TT} (h : PT X e t) (w : ∀ σ H Q, t' σ H Q → t σ H Q) : PT X e t' := ⟨fun pins s σ H Q I q => h.run pins s σ H Q I (w _ _ _ q)⟩
theorem PA.weak {X : Cx} {e : List Expr} {t t' : TA} (h : PA X e t) (w : ∀ σ H Q, t' σ H Q → t σ H Q) : PA X e t' := ⟨fun pos pins s σ H Q I q => h.run pos pins s σ H Q I (w _ _ _ q)⟩
theorem PS.weak {X : Cx} {e : Stmt} {t t' : TS} (h : PS X e t) (w : ∀ K σ H, t' K σ H → t K σ H) : PS X e t' := ⟨fun pins s σ H Q I q => h.run pins s σ H Q I (w _ _ _ q)⟩
theorem PSs.weak {X : Cx} {e : List Stmt} {t t' : TS} (h : PSs X e t) (w : ∀ K σ H, t' K σ H → t K σ H) : PSs X e t' := ⟨fun pins s σ H Q I q => h.run pins s σ H Q I (w _ _ _ q)⟩
section
variable {T : Tb} {W : WX} {G : Gd} {B : List (Nat × Addr)} {Z Z' H H' : Hp} {σ : St}
theorem PR.mono (s : Same Z Z') {Q : VK} : ∀ {r : R}, PR T W G B Z σ Q r → PR T W G B Z' σ Q r
  | .ok _ _, h => fun v H' Z'' s' e r => h v H' Z'' (s.trans s') e r
  | .ex _ _, h => fun c d H' Z'' s' e r => h c d H' Z'' (s.trans s') e r
  | .no, h => h
theorem PRT.mono (s : Same Z Z') {Q : Bool → Hp → Prop} : ∀ {r : RT}, PRT T W G B Z σ Q r → PRT T W G B Z' σ Q r
  | .ok _ _, h => fun H' Z'' s' e => h H' Z'' (s.trans s') e
  | .ex _ _, h => fun c d H' Z'' s' e r => h c d H' Z'' (s.trans s') e r
  | .no, h => h
theorem PRA.mono (s : Same Z Z') {Q : List V → Hp → Prop} : ∀ {r : RA}, PRA T W G B Z σ Q r → PRA T W G B Z' σ Q r
  | .ok _ _, h => fun v H' Z'' s' e r => h v H' Z'' (s.trans s') e r
  | .ex _ _, h => fun c d H' Z'' s' e r => h c d H' Z'' (s.trans s') e r
  | .no, h => h
theorem PRS.mono (s : Same Z Z') {K : Ends} : ∀ {r : RS}, PRS T W G B Z K r → PRS T W G B Z' K r
  | .nx _, h => fun σ' H' Z'' s' e => h σ' H' Z'' (s.trans s') e
  | .bk _, h => fun σ' H' Z'' s' e => h σ' H' Z'' (s.trans s') e
  | .ct _, h => fun σ' H' Z'' s' e => h σ' H' Z'' (s.trans s') e
  | .rt _ _, h => fun v σ' H' Z'' s' e r => h v σ' H' Z'' (s.trans s') e r
  | .ex _ _, h => fun c d σ' H' Z'' s' e r => h c d σ' H' Z'' (s.trans s') e r
  | .no, h => h
theorem AVOk.mono (s : Same Z Z') : ∀ {vs : List V} {as : List AV}, AVOk T Z σ vs as → AVOk T Z' σ vs as
  | [], [], _ => True.intro
  | _ :: _, .d _ :: _, h => ⟨h.1.mono s, AVOk.mono s h.2⟩
  | _ :: _, .s _ :: _, h => ⟨h.1, AVOk.mono s h.2⟩
  | [], .d _ :: _, h => h.elim
  | [], .s _ :: _, h => h.elim
  | _ :: _, [], h => h.elim
end

section
variable {T : Tb} {G : Gd} {Z Z' H : Hp} {B : List (Nat × Addr)} {σ : St} {env : Env'} {p : Addr} {o : HO}
theorem EOk.gnone (E : EOk T G B Z H σ env) (h : H p = none) : G.g p = none := by
  cases q : G.g p with
  | none => rfl
  | some u =>
    by_cases hb : ∃ i, (i, p) ∈ B
    · obtain ⟨i, hb⟩ := hb
      obtain ⟨⟨o, e⟩, e2⟩ := E.bor i p hb
      obtain ⟨a, h', e3, e4, _⟩ := E.own i true o e
      rw [e2] at e3
      cases e3
      rw [e4] at h; cases h
    · have := E.keep p u q fun i hi => hb ⟨i, hi⟩
      rw [this] at h; cases h
theorem EOk.znone (E : EOk T G B Z H σ env) (h : H p = none) : Z p = none := E.sub.free h
theorem EOk.nown (E : EOk T G B Z H σ env) (h : H p = none) (i : Nat) : ¬ Own σ env i p := fun ⟨⟨b, o, e⟩, e2⟩ => by
  obtain ⟨a, h', e3, e4, _⟩ := E.own i b o e
  rw [e2] at e3
  cases e3
  rw [e4] at h; cases h
theorem EOk.new (E : EOk T G B Z H σ env) (h : H p = none) : EOk T G B Z (upd H p o) σ env where
  len := E.len
  sub := fun a u q => by
    have := E.sub a u q
    rw [upd_ne (ne_of_none this h)]; exact this
  nof := E.nof
  keep := fun a u q n => by
    have := E.keep a u q n
    rw [upd_ne (ne_of_none this h)]; exact this
  val := E.val
  own := fun i b o e => by
    obtain ⟨a, h', e1, e2, r⟩ := E.own i b o e
    exact ⟨a, h', e1, by rw [upd_ne (ne_of_none e2 h)]; exact e2, r⟩
  bor := E.bor
  dis := E.dis
theorem EOk.fix (E : EOk T G B Z H σ env) (h : H p = some o) (n : ∀ i, ¬ Own σ env i p) (hz : Z p = none) (hg : G.g p = none) : EOk T G B (upd Z p o) H σ env where
  len := E.len
  sub := fun a u q => by
    by_cases e : a = p
    · subst e; rw [upd_same] at q; cases q; exact h
    · rw [upd_ne e] at q; exact E.sub a u q
  nof := fun a h1 h2 => by
    rw [upd_ne fun e => h1 (by rw [e]; exact hg)]
    exact E.nof a h1 h2
  keep := E.keep
  val := fun i d e => by
    obtain ⟨v, e1, r⟩ := E.val i d e
    exact ⟨v, e1, r.mono fun a u q => by rw [upd_ne (ne_of_none q hz)]; exact q⟩
  own := fun i b u e => by
    obtain ⟨a, h', e1, e2, r, z, g⟩ := E.own i b u e
    refine ⟨a, h', e1, e2, r.mono fun a u q => by rw [upd_ne (ne_of_none q hz)]; exact q, ?_, g⟩
    rw [upd_ne fun q => n i ⟨⟨b, u, e⟩, by rw [← q]; exact e1⟩]
    exact z
  bor := E.bor
  dis := E.dis
theorem same_upd (h : Z p = none) : Same Z (upd Z p o) := fun a u q => by rw [upd_ne (ne_of_none q h)]; exact q
theorem new_list (E : EOk T G B Z H σ env) (h : H p = none) {vs : List V} {xs : List D} (r : Reps T Z vs xs) :
    EOk T G B Z (upd H p (.lst vs)) σ env ∧ RRep T G Z (upd H p (.lst vs)) σ env (.ref p) (.o (.l xs)) :=
  ⟨E.new h, p, _, rfl, upd_same, ⟨vs, rfl, r⟩, E.znone h, E.gnone h, E.nown h⟩
theorem new_tup (E : EOk T G B Z H σ env) (h : H p = none) {vs : List V} {xs : List D} (r : Reps T Z vs xs) :
    Same Z (upd Z p (.tup vs)) ∧ EOk T G B (upd Z p (.tup vs)) (upd H p (.tup vs)) σ env ∧ Rep T (upd Z p (.tup vs)) (.ref p) (.tup xs) :=
  ⟨same_upd (E.znone h), (E.new h).fix upd_same (E.nown h) (E.znone h) (E.gnone h), .tup (SqT.of upd_same) (r.mono (same_upd (E.znone h)))⟩
end

def fz : RV → Option D
  | .d d => some d
  | .o (.l xs) => some (.lst xs)
  | .o (.s c xs) => none
def R.bind (r : R) (k : D → Env' → R) : R :=
  match r with
  | .ok (.d d) e => k d e
  | .ok (.o (.l xs)) e => k (.lst xs) e
  | .ok (.o (.s _ _)) _ => .no
  | .ex x e => .ex x e
  | .no => .no
def R.bindT (r : R) (k : D → Env' → RT) : RT :=
  match r with
  | .ok (.d d) e => k d e
  | .ok (.o (.l xs)) e => k (.lst xs) e
  | .ok (.o (.s _ _)) _ => .no
  | .ex x e => .ex x e
  | .no => .no
def R.bindA (r : R) (k : D → Env' → RA) : RA :=
  match r with
  | .ok (.d d) e => k d e
  | .ok (.o (.l xs)) e => k (.lst xs) e
  | .ok (.o (.s _ _)) _ => .no
  | .ex x e => .ex x e
  | .no => .no
def R.bindS (r : R) (k : D → Env' → RS) : RS :=
  match r with
  | .ok (.d d) e => k d e
  | .ok (.o (.l xs)) e => k (.lst xs) e
  | .ok (.o (.s _ _)) _ => .no
  | .ex x e => .ex x e
  | .no => .no
def R.bindR (r : R) (k : RV → Env' → RS) : RS :=
  match r with
  | .ok r e => k r e
  | .ex x e => .ex x e
  | .no => .no
def RT.bind (r : RT) (k : Bool → Env' → R) : R :=
  match r with
  | .ok b e => k b e
  | .ex x e => .ex x e
  | .no => .no
def RT.bindT (r : RT) (k : Bool → Env' → RT) : RT :=
  match r with
  | .ok b e => k b e
  | .ex x e => .ex x e
  | .no => .no
def RT.bindS (r : RT) (k : Bool → Env' → RS) : RS :=
  match r with
  | .ok b e => k b e
  | .ex x e => .ex x e
  | .no => .no
def RA.bind (r : RA) (k : List AV → Env' → R) : R :=
  match r with
  | .ok as e => k as e
  | .ex x e => .ex x e
  | .no => .no
section
variable {T : Tb} {W : WX} {G : Gd} {B : List (Nat × Addr)} {Z H : Hp} {σ : St} {env : Env'} {f : Env' → R} {ft : Env' → RT} {fa : Env' → RA}
theorem frozen {Z' H' : Hp} {e : Env'} {v : V} {xs : List D} (E : EOk T G B Z' H' σ e) (r : RRep T G Z' H' σ e v (.o (.l xs))) : ∃ Z2, Same Z' Z2 ∧ EOk T G B Z2 H' σ e ∧ Rep T Z2 v (.lst xs) := by
  obtain ⟨a, h, rfl, e1, ⟨vs, rfl, rs⟩, e2, e3, n⟩ := r
  refine ⟨upd Z' a (.lst vs), same_upd e2, E.fix e1 n e2 e3, .lst upd_same (rs.mono (same_upd e2))⟩
theorem use {P : VK} {Z0 : Hp} (s0 : Same Z0 Z) (E : EOk T G B Z H σ env) (hok : ∀ r e, f env = .ok r e → ∀ v H' Z', Same Z0 Z' → EOk T G B Z' H' σ e → RRep T G Z' H' σ e v r → P v H')
    (hex : ∀ x e, f env = .ex x e → ∀ cls d H' Z', Same Z0 Z' → EOk T G B Z' H' σ e → XRep T Z' H' cls d x → W cls d σ H') (hno : f env ≠ .no) : tX T W f σ H P := by
  refine ⟨G, B, Z, env, E, ?_⟩
  cases q : f env with
  | ok r e => exact fun v H' Z' s' E' r' => hok r e q v H' Z' (s0.trans s') E' r'
  | ex x e => exact fun c d H' Z' s' E' r' => hex x e q c d H' Z' (s0.trans s') E' r'
  | no => exact (hno q).elim
theorem use_d {P : VK} (E : EOk T G B Z H σ env) {γ : Type} {bnd : R → (D → Env' → γ) → γ} {PP : γ → Prop} {k : D → Env' → γ} (h : PP (bnd (f env) k))
    (h1 : ∀ d e k, PP (bnd (.ok (.d d) e) k) → PP (k d e)) (h2 : ∀ xs e k, PP (bnd (.ok (.o (.l xs)) e) k) → PP (k (.lst xs) e)) (h3 : ∀ c xs e k, ¬ PP (bnd (.ok (.o (.s c xs)) e) k))
    (h4 : ∀ x e k, PP (bnd (.ex x e) k) → ∀ cls d H' Z', Same Z Z' → EOk T G B Z' H' σ e → XRep T Z' H' cls d x → W cls d σ H') (h5 : ∀ k, ¬ PP (bnd .no k))
    (go : ∀ v H1 Z1 e d, Same Z Z1 → EOk T G B Z1 H1 σ e → Rep T Z1 v d → PP (k d e) → P v H1) : tX T W f σ H P := by
  refine use (Same.refl _) E (fun r e q v H' Z' s E' r' => ?_) (fun x e q => ?_) (fun q => ?_)
  · rw [q] at h
    cases r with
    | d d => exact go v H' Z' e d s E' r' (h1 _ _ _ h)
    | o o =>
      cases o with
      | l xs =>
        obtain ⟨Z2, s2, E2, r2⟩ := frozen E' r'
        exact go v H' Z2 e _ (s.trans s2) E2 r2 (h2 _ _ _ h)
      | s c xs => exact (h3 _ _ _ _ h).elim
  · rw [q] at h
    exact h4 _ _ _ h
  · rw [q] at h
    exact (h5 _ h).elim
theorem useR {P Q : VK} {k : D → Env' → R} (E : EOk T G B Z H σ env) (h : PR T W G B Z σ Q ((f env).bind k))
    (go : ∀ v H1 Z1 e d, Same Z Z1 → EOk T G B Z1 H1 σ e → Rep T Z1 v d → PR T W G B Z1 σ Q (k d e) → P v H1) : tX T W f σ H P :=
  use_d (bnd := R.bind) (PP := PR T W G B Z σ Q) E h (fun _ _ _ q => q) (fun _ _ _ q => q) (fun _ _ _ _ q => q) (fun _ _ _ q => q) (fun _ q => q) fun v H1 Z1 e d s E' r q => go v H1 Z1 e d s E' r (q.mono s)
theorem useT {P : VK} {Q : Bool → Hp → Prop} {k : D → Env' → RT} (E : EOk T G B Z H σ env) (h : PRT T W G B Z σ Q ((f env).bindT k))
    (go : ∀ v H1 Z1 e d, Same Z Z1 → EOk T G B Z1 H1 σ e → Rep T Z1 v d → PRT T W G B Z1 σ Q (k d e) → P v H1) : tX T W f σ H P :=
  use_d (bnd := R.bindT) (PP := PRT T W G B Z σ Q) E h (fun _ _ _ q => q) (fun _ _ _ q => q) (fun _ _ _ _ q => q) (fun _ _ _ q => q) (fun _ q => q) fun v H1 Z1 e d s E' r q => go v H1 Z1 e d s E' r (q.mono s)
theorem useA {P : VK} {Q : List V → Hp → Prop} {k : D → Env' → RA} (E : EOk T G B Z H σ env) (h : PRA T W G B Z σ Q ((f env).bindA k))
    (go : ∀ v H1 Z1 e d, Same Z Z1 → EOk T G B Z1 H1 σ e → Rep T Z1 v d → PRA T W G B Z1 σ Q (k d e) → P v H1) : tX T W f σ H P :=
  use_d (bnd := R.bindA) (PP := PRA T W G B Z σ Q) E h (fun _ _ _ q => q) (fun _ _ _ q => q) (fun _ _ _ _ q => q) (fun _ _ _ q => q) (fun _ q => q) fun v H1 Z1 e d s E' r q => go v H1 Z1 e d s E' r (q.mono s)
theorem useS {P : VK} {K : Ends} {k : D → Env' → RS} (E : EOk T G B Z H σ env) (h : PRS T W G B Z K ((f env).bindS k))
    (go : ∀ v H1 Z1 e d, Same Z Z1 → EOk T G B Z1 H1 σ e → Rep T Z1 v d → PRS T W G B Z1 K (k d e) → P v H1) : tX T W f σ H P :=
  use_d (bnd := R.bindS) (PP := PRS T W G B Z K) E h (fun _ _ _ q => q) (fun _ _ _ q => q) (fun _ _ _ _ q => q) (fun _ _ _ q c d H' Z' s E r => q c d _ H' Z' s E r) (fun _ q => q) fun v H1 Z1 e d s E' r q => go v H1 Z1 e d s E' r (q.mono s)
theorem useRV {P : VK} {K : Ends} {k : RV → Env' → RS} (E : EOk T G B Z H σ env) (h : PRS T W G B Z K ((f env).bindR k))
    (go : ∀ v H1 Z1 e r, Same Z Z1 → EOk T G B Z1 H1 σ e → RRep T G Z1 H1 σ e v r → PRS T W G B Z1 K (k r e) → P v H1) : tX T W f σ H P := by
  refine use (Same.refl _) E (fun r e q v H' Z' s E' r' => ?_) (fun x e q => ?_) (fun q => ?_)
  · rw [q] at h
    exact go v H' Z' e r s E' r' (PRS.mono s (r := k r e) h)
  · rw [q] at h
    exact fun c d H' Z' s E r => h c d _ H' Z' s E r
  · rw [q] at h
    exact h.elim
theorem useTR {P : Bool → Hp → Prop} {Q : VK} {k : Bool → Env' → R} (E : EOk T G B Z H σ env) (h : PR T W G B Z σ Q ((ft env).bind k))
    (go : ∀ b H1 Z1 e, Same Z Z1 → EOk T G B Z1 H1 σ e → PR T W G B Z1 σ Q (k b e) → P b H1) : tXT T W ft σ H P := by
  refine ⟨G, B, Z, env, E, ?_⟩
  cases q : ft env with
  | ok b e =>
    rw [q] at h
    exact fun H' Z' s E' => go b H' Z' e s E' (PR.mono s (r := k b e) h)
  | ex x e =>
    rw [q] at h
    exact h
  | no => rw [q] at h; exact h.elim
theorem useTT {P Q : Bool → Hp → Prop} {k : Bool → Env' → RT} (E : EOk T G B Z H σ env) (h : PRT T W G B Z σ Q ((ft env).bindT k))
    (go : ∀ b H1 Z1 e, Same Z Z1 → EOk T G B Z1 H1 σ e → PRT T W G B Z1 σ Q (k b e) → P b H1) : tXT T W ft σ H P := by
  refine ⟨G, B, Z, env, E, ?_⟩
  cases q : ft env with
  | ok b e =>
    rw [q] at h
    exact fun H' Z' s E' => go b H' Z' e s E' (PRT.mono s (r := k b e) h)
  | ex x e =>
    rw [q] at h
    exact h
  | no => rw [q] at h; exact h.elim
theorem useTS {P : Bool → Hp → Prop} {K : Ends} {k : Bool → Env' → RS} (E : EOk T G B Z H σ env) (h : PRS T W G B Z K ((ft env).bindS k))
    (go : ∀ b H1 Z1 e, Same Z Z1 → EOk T G B Z1 H1 σ e → PRS T W G B Z1 K (k b e) → P b H1) : tXT T W ft σ H P := by
  refine ⟨G, B, Z, env, E, ?_⟩
  cases q : ft env with
  | ok b e =>
    rw [q] at h
    exact fun H' Z' s E' => go b H' Z' e s E' (PRS.mono s (r := k b e) h)
  | ex x e =>
    rw [q] at h
    exact fun c d H' Z' s E r => h c d _ H' Z' s E r
  | no => rw [q] at h; exact h.elim
theorem useAR {P : List V → Hp → Prop} {Q : VK} {k : List AV → Env' → R} (E : EOk T G B Z H σ env) (h : PR T W G B Z σ Q ((fa env).bind k))
    (go : ∀ vs H1 Z1 e as, Same Z Z1 → EOk T G B Z1 H1 σ e → AVOk T Z1 σ vs as → PR T W G B Z1 σ Q (k as e) → P vs H1) : tXA T W fa σ H P := by
  refine ⟨G, B, Z, env, E, ?_⟩
  cases q : fa env with
  | ok as e =>
    rw [q] at h
    exact fun vs H' Z' s E' r => go vs H' Z' e as s E' r (PR.mono s (r := k as e) h)
  | ex x e =>
    rw [q] at h
    exact h
  | no => rw [q] at h; exact h.elim
end
end L2.S

set_option Elab.async false
set_option linter.all false
set_option maxRecDepth 100000
set_option maxHeartbeats 4000000
namespace L2.S
open PySem PySem.Spec PyProof.Rows

section
variable {X : Cx} {T : Tb} {W : WX} {a b c : Expr} {f g : Env' → R} {pos : Pos}
def two (p : D → D → Env' → R) (f g : Env' → R) : Env' → R := fun env => (f env).bind fun x e => (g e).bind fun y e' => p x y e'
def Two (T : Tb) (W : WX) (p : D → D → Env' → R) (σ : St) (Q : VK) (x y : V) (H : Hp) : Prop :=
  ∃ G B Z e dx dy, EOk T G B Z H σ e ∧ Rep T Z x dx ∧ Rep T Z y dy ∧ PR T W G B Z σ Q (p dx dy e)
theorem two_tX {p : D → D → Env' → R} {σ : St} {H : Hp} {Q : VK} (h : tX T W (two p f g) σ H Q) : tX T W f σ H fun x H1 => tX T W g σ H1 fun y H2 => Two T W p σ Q x y H2 := by
  obtain ⟨G, B, Z, env, E, h⟩ := h
  refine useR E h fun x H1 Z1 e dx s E1 r1 h1 => ?_
  exact useR E1 h1 fun y H2 Z2 e2 dy s2 E2 r2 h2 => ⟨G, B, Z2, e2, dx, dy, E2, r1.mono s2, r2, h2⟩

def Op2 (X : Cx) (T : Tb) (sem : Value → Value → Sem Value) (p : D → D → Option RV) : Prop :=
  ∀ (pins : List (Addr × Obj)) (s : Shared) (σ : St) (H : Hp) (x y : V) (v u : Value) (Q : VK) (G : Gd) (B : List (Nat × Addr)) (Z : Hp) (σ' : St) (env : Env') (dx dy : D) (r : RV),
    Inv X pins σ H s → RelV x v → RelV y u → EOk T G B Z H σ' env → Rep T Z x dx → Rep T Z y dy → p dx dy = some r →
    (∀ v H' Z', Same Z Z' → EOk T G B Z' H' σ' env → RRep T G Z' H' σ' env v r → Q v H') → wpAny (model X.prog X.w) X.A (sem v u) (EP X pins σ Q) X.xe s
def ofOp (p : D → D → Option RV) : D → D → Env' → R := fun x y e => match p x y with | some r => .ok r e | none => .no
def cOp (p : D → D → Option RV) (f g : Env' → R) : Env' → R := two (ofOp p) f g
theorem Two.op {sem : Value → Value → Sem Value} {p : D → D → Option RV} (ho : Op2 X T sem p) {pins : List (Addr × Obj)} {s : Shared} {σ : St} {H : Hp} {x y : V} {v u : Value} {Q : VK}
    (I : Inv X pins σ H s) (rx : RelV x v) (ry : RelV y u) (h : Two T W (ofOp p) σ Q x y H) : wpAny (model X.prog X.w) X.A (sem v u) (EP X pins σ Q) X.xe s := by
  obtain ⟨G, B, Z, e, dx, dy, E, r1, r2, h⟩ := h
  unfold ofOp at h
  cases q : p dx dy with
  | none => rw [q] at h; exact h.elim
  | some r =>
    rw [q] at h
    exact ho pins s σ H x y v u Q G B Z σ e dx dy r I rx ry E r1 r2 q h
theorem se_bin {op : Operator} {p : D → D → Option RV} (ho : Op2 X T (binaryOp op) p) (ha : SE X T W a f) (hb : SE X T W b g) : SE X T W (.BinOp a op b pos) (cOp p f g) := by
  refine ⟨fun pins s σ H Q I h => ?_⟩
  exact wpAny_BinOp (binT ha hb I (two_tX h) fun v u s2 x y H2 I2 rx ry q => q.op ho I2 rx ry)
theorem se_cmp {op : CmpOp} {p : D → D → Option RV} (ho : Op2 X T (compareOp op) p) (ha : SE X T W a f) (hb : SE X T W b g) (hm : behindInMarks op b = false) : SE X T W (.Compare a [op] [b] pos) (cOp p f g) := by
  refine ⟨fun pins s σ H Q I h => ?_⟩
  exact wpAny_Compare1 (binT ha hb I (two_tX h) fun v u s2 x y H2 I2 rx ry q => q.op ho I2 rx ry) hm
def orP (p q : D → D → Option RV) : D → D → Option RV := fun x y => match p x y with | some r => some r | none => q x y
theorem Op2.or {sem : Value → Value → Sem Value} {p q : D → D → Option RV} (h : Op2 X T sem p) (k : Op2 X T sem q) : Op2 X T sem (orP p q) := by
  intro pins s σ H x y v u Q G B Z σ' env dx dy r I rx ry E r1 r2 e c
  unfold orP at e
  cases z : p dx dy with
  | some w =>
    rw [z] at e; cases e
    exact h pins s σ H x y v u Q G B Z σ' env dx dy r I rx ry E r1 r2 z c
  | none =>
    rw [z] at e
    exact k pins s σ H x y v u Q G B Z σ' env dx dy r I rx ry E r1 r2 e c

def cK (d : D) : Env' → R := fun e => .ok (.d d) e
theorem se_k {e : Expr} {v : V} {d : D} (h : PE X e (tC v)) (r : ∀ Z, Rep T Z v d) : SE X T W e (cK d) := PE.weak h fun σ H Q ⟨G, B, Z, env, E, q⟩ => q v H Z (Same.refl _) E (r Z)
theorem se_int {i : Int} {j} : SE X T W (.Constant (.int i) j pos) (cK (.int i)) := se_k pe_int fun _ => .int i
theorem se_bl {i : Bool} {j} : SE X T W (.Constant (.bool i) j pos) (cK (.bl i)) := se_k pe_bl fun _ => .bl i
theorem se_non {j} : SE X T W (.Constant .none j pos) (cK .non) := se_k pe_non fun _ => .non
theorem se_str {x : Str} {l : List Nat} {j} (h : x = ⟨l.toArray⟩ := by rfl) : SE X T W (.Constant (.str x) j pos) (cK (.str l)) := by
  subst h
  exact se_k pe_str fun _ => .str l
def cV (i : Nat) : Env' → R := fun e =>
  match e[i]? with
  | some (.val d) => .ok (.d d) e
  | some (.own false (.l xs)) => .ok (.d (.lst xs)) (e.set i (.val (.lst xs)))
  | _ => .no
section
variable {G : Gd} {Z H : Hp} {B : List (Nat × Addr)} {σ : St} {env : Env'} {i : Nat}
theorem EOk.frz (E : EOk T G B Z H σ env) {xs : List D} (h : env[i]? = some (.own false (.l xs))) :
    ∃ a Z', σ[i]? = some (some (.ref a)) ∧ Same Z Z' ∧ EOk T G B Z' H σ (env.set i (.val (.lst xs))) ∧ Rep T Z' (.ref a) (.lst xs) := by
  obtain ⟨a, ho, e1, e2, ⟨vs, e3, r⟩, e4, e5⟩ := E.own i false _ h
  subst e3
  have hi : i < env.length := (List.getElem?_eq_some_iff.mp h).1
  have own' : ∀ j b, Own σ (env.set i (.val (.lst xs))) j b → j ≠ i ∧ Own σ env j b := fun j b ⟨⟨b1, o, q⟩, q2⟩ => by
    by_cases hj : i = j
    · subst hj
      rw [List.getElem?_set_self hi] at q
      cases q
    · rw [List.getElem?_set_ne hj] at q
      exact ⟨fun z => hj z.symm, ⟨b1, o, q⟩, q2⟩
  have s : Same Z (upd Z a (.lst vs)) := same_upd e4
  have ga : G.g a = none := by
    rcases e5 with ⟨z, _⟩ | ⟨_, z⟩
    · cases z
    · exact z
  refine ⟨a, upd Z a (.lst vs), e1, s, ⟨?_, fun b u q => ?_, fun b h1 h2 => by rw [upd_ne fun e => h1 (by rw [e]; exact ga)]; exact E.nof b h1 h2, E.keep, fun j d q => ?_, fun j b o q => ?_, fun j b q => ?_, fun j k b n o1 o2 => ?_⟩, .lst upd_same (r.mono s)⟩
  · rw [List.length_set]; exact E.len
  · by_cases e : b = a
    · subst e; rw [upd_same] at q; cases q; exact e2
    · rw [upd_ne e] at q; exact E.sub b u q
  · by_cases hj : i = j
    · subst hj
      rw [List.getElem?_set_self hi] at q
      cases q
      exact ⟨_, e1, .lst upd_same (r.mono s)⟩
    · rw [List.getElem?_set_ne hj] at q
      obtain ⟨v, q1, q2⟩ := E.val j d q
      exact ⟨v, q1, q2.mono s⟩
  · by_cases hj : i = j
    · subst hj
      rw [List.getElem?_set_self hi] at q
      cases q
    · rw [List.getElem?_set_ne hj] at q
      obtain ⟨c, h', q1, q2, q3, q4, q5⟩ := E.own j b o q
      refine ⟨c, h', q1, q2, q3.mono s, ?_, q5⟩
      rw [upd_ne fun z => E.dis i j a hj ⟨⟨_, _, h⟩, e1⟩ ⟨⟨_, _, q⟩, by rw [← z]; exact q1⟩]
      exact q4
  · obtain ⟨⟨o, q1⟩, q2⟩ := E.bor j b q
    refine ⟨⟨o, ?_⟩, q2⟩
    rw [List.getElem?_set_ne fun z => by rw [← z, h] at q1; cases q1]
    exact q1
  · exact E.dis j k b n (own' j b o1).2 (own' k b o2).2
end
theorem se_v (i : Nat) {x : Str} (hN : X.N[i]? = some x := by rfl) (hv : Vis X.env.scope x := by first | exact Or.inl rfl | exact Or.inr (Or.inl rfl) | exact Or.inr (Or.inr rfl)) (hd : (x == ("__debug__" : Str)) = false := by decide)
    (hcd : (x == ("__classdict__" : Str)) = false := by decide) : SE X T W (.Name x pos) (cV i) := by
  refine PE.weak (pe_var hN hv hd hcd) fun σ H Q ⟨G, B, Z, env, E, q⟩ => ?_
  unfold cV at q
  cases h : env[i]? with
  | none => rw [h] at q; exact q.elim
  | some w =>
    rw [h] at q
    cases w with
    | un => exact q.elim
    | val d =>
      obtain ⟨v, e1, r⟩ := E.val i d h
      exact ⟨v, e1, q v H Z (Same.refl _) E r⟩
    | own b o =>
      cases b with
      | true => exact q.elim
      | false =>
        cases o with
        | s c xs => exact q.elim
        | l xs =>
          obtain ⟨a, Z', e1, s, E', r⟩ := E.frz h
          exact ⟨_, e1, q _ H Z' s E' r⟩

def truthD : D → Option Bool
  | .non => some false
  | .bl b => some b
  | .int i => some (i != 0)
  | .str l => if l.length ≤ 16777216 then some (!l.isEmpty) else none
  | .tup xs => some (!xs.isEmpty)
  | .lst xs => some (!xs.isEmpty)
  | .ro xs => some (!xs.isEmpty)
  | _ => none
def cTr (f : Env' → R) : Env' → RT := fun env => (f env).bindT fun d e => match truthD d with | some b => .ok b e | none => .no
theorem Reps.isEmpty {Z : Hp} {vs : List V} {ds : List D} (r : Reps T Z vs ds) : vs.isEmpty = ds.isEmpty := by
  cases r <;> rfl
theorem tru_rep (hT : X.K = T.K) {G : Gd} {Z H : Hp} {B : List (Nat × Addr)} {σ : St} {env : Env'} {v : V} {d : D} {b : Bool} (E : EOk T G B Z H σ env) (r : Rep T Z v d) (e : truthD d = some b) : TruV X.K v H b := by
  cases r with
  | non => cases e; rfl
  | bl c => cases e; rfl
  | int i => cases e; rfl
  | str l =>
    have e' : (if l.length ≤ 16777216 then some (!l.isEmpty) else none) = some b := e
    split at e'
    · rename_i hl
      cases e'
      refine ⟨by rw [sizeLine_eq]; exact hl, ?_⟩
      show (!l.isEmpty) = _
      cases l <;> simp [Str.length, Int.natCast_add] <;> omega
    · cases e'
  | tup h r => cases e; exact .inr (.inl ⟨_, by rw [hT]; exact sqt_mono E.sub h, by rw [r.isEmpty]⟩)
  | lst h r => cases e; exact .inl ⟨_, SqL.of (E.sub _ _ h), by rw [r.isEmpty]⟩
  | ro h r => cases e; exact .inl ⟨_, by rw [hT]; exact E.sub.seq h, by rw [r.isEmpty]⟩
  | obj h n r => cases e
  | fn k => cases e
  | ty k => cases e
  | cls k => cases e
  | exv0 => cases e
  | exv _ _ _ => cases e
theorem st_tr (hT : X.K = T.K) (ha : SE X T W a f) (he : ∀ whole, isTrue a X.env whole = (do let v ← whole; standAt a.pos; holding [v] (truthy v)) := by intro _; rfl) : ST X T W a (cTr f) := by
  refine PT.weak (pt_truth ha he) fun σ H Q ⟨G, B, Z, env, E, q⟩ => ?_
  refine useT E q fun v H1 Z1 e d s E1 r q1 => ?_
  cases h : truthD d with
  | none => rw [h] at q1; exact q1.elim
  | some b =>
    rw [h] at q1
    exact ⟨b, tru_rep hT E1 r h, q1 H1 Z1 (Same.refl _) E1⟩
theorem st_cmp {op : CmpOp} {p : D → D → Option RV} (hT : X.K = T.K) (ho : Op2 X T (compareOp op) p) (ha : SE X T W a f) (hb : SE X T W b g) (hm : behindInMarks op b = false) : ST X T W (.Compare a [op] [b] pos) (cTr (cOp p f g)) := by
  refine ⟨fun pins s σ H Q I h => ?_⟩
  have h' : tX T W (cOp p f g) σ H fun v H1 => ∃ k, TruV X.K v H1 k ∧ Q k H1 := by
    obtain ⟨G, B, Z, env, E, q⟩ := h
    refine useT E q fun v H1 Z1 e d s E1 r q1 => ?_
    cases h : truthD d with
    | none => rw [h] at q1; exact q1.elim
    | some b =>
      rw [h] at q1
      exact ⟨b, tru_rep hT E1 r h, q1 H1 Z1 (Same.refl _) E1⟩
  refine wpAny_isTrue_Compare1 (binT ha hb I (two_tX h') fun v u s2 x y H2 I2 rx ry q => thn (q.op ho I2 rx ry) fun c s3 ⟨z, H3, I3, r3, q3⟩ => tru_ok pins s3 σ H3 z c Q I3 r3 q3) hm
def cAndT (t u : Env' → RT) : Env' → RT := fun env => (t env).bindT fun b e => if b then u e else .ok false e
def cOrT (t u : Env' → RT) : Env' → RT := fun env => (t env).bindT fun b e => if b then .ok true e else u e
def cNotT (t : Env' → RT) : Env' → RT := fun env => (t env).bindT fun b e => .ok (!b) e
variable {t u : Env' → RT} {rest : List Expr}
def SW (X : Cx) (T : Tb) (W : WX) (e : Expr) (f : Env' → RT) : Prop := PW X e (tXT T W f)
theorem SW.st (h : SW X T W a t) : ST X T W a t := PW.pt h
theorem sw_and1 (ha : ST X T W a t) : SW X T W (.BoolOp .And [a] pos) t := pw_and1 ha
theorem sw_or1 (ha : ST X T W a t) : SW X T W (.BoolOp .Or [a] pos) t := pw_or1 ha
theorem PW.weak {e : Expr} {t t' : TT} (h : PW X e t) (w : ∀ σ H Q, t' σ H Q → t σ H Q) : PW X e t' := ⟨fun wh pins s σ H Q I q => h.run wh pins s σ H Q I (w _ _ _ q)⟩
theorem sw_and (ha : ST X T W a t) (hb : SW X T W (.BoolOp .And (b :: rest) pos) u) : SW X T W (.BoolOp .And (a :: b :: rest) pos) (cAndT t u) := by
  refine PW.weak (pw_and ha hb) fun σ H Q ⟨G, B, Z, env, E, q⟩ => ?_
  refine useTT E q fun b H1 Z1 e s E1 q1 => ?_
  cases b with
  | true => exact ⟨G, B, Z1, e, E1, q1⟩
  | false => exact q1 H1 Z1 (Same.refl _) E1
theorem sw_or (ha : ST X T W a t) (hb : SW X T W (.BoolOp .Or (b :: rest) pos) u) : SW X T W (.BoolOp .Or (a :: b :: rest) pos) (cOrT t u) := by
  refine PW.weak (pw_or ha hb) fun σ H Q ⟨G, B, Z, env, E, q⟩ => ?_
  refine useTT E q fun b H1 Z1 e s E1 q1 => ?_
  cases b with
  | true => exact q1 H1 Z1 (Same.refl _) E1
  | false => exact ⟨G, B, Z1, e, E1, q1⟩
theorem st_not (ha : ST X T W a t) : ST X T W (.UnaryOp .Not a pos) (cNotT t) := by
  refine PT.weak (pt_not ha) fun σ H Q ⟨G, B, Z, env, E, q⟩ => ?_
  exact useTT E q fun b H1 Z1 e s E1 q1 => q1 H1 Z1 (Same.refl _) E1
def asB (f : Env' → R) (k : Bool → Env' → R) : Env' → R := fun env => (f env).bind fun d e => match d with | .bl b => k b e | _ => .no
def cAnd (f g : Env' → R) : Env' → R := asB f fun b e => if b then g e else .ok (.d (.bl false)) e
def cOr (f g : Env' → R) : Env' → R := asB f fun b e => if b then .ok (.d (.bl true)) e else g e
def cNot (f : Env' → R) : Env' → R := asB f fun b e => .ok (.d (.bl (!b))) e
theorem use_b {f : Env' → R} {k : Bool → Env' → R} {G : Gd} {Z H : Hp} {B : List (Nat × Addr)} {σ : St} {env : Env'} {P Q : VK} (E : EOk T G B Z H σ env) (h : PR T W G B Z σ Q (asB f k env))
    (go : ∀ b H1 Z1 e, Same Z Z1 → EOk T G B Z1 H1 σ e → PR T W G B Z1 σ Q (k b e) → P (.bl b) H1) : tX T W f σ H P := by
  refine useR E h fun v H1 Z1 e d s E1 r q1 => ?_
  cases r with
  | bl b => exact go b H1 Z1 e s E1 q1
  | _ => exact q1.elim
theorem se_one {op} (h : SE X T W a f) : SE X T W (.BoolOp op [a] pos) f := pe_one h
theorem se_and (ha : SE X T W a f) (hb : SE X T W (.BoolOp .And (b :: rest) pos) g) : SE X T W (.BoolOp .And (a :: b :: rest) pos) (cAnd f g) := by
  refine PE.weak (pe_and ha hb) fun σ H Q ⟨G, B, Z, env, E, q⟩ => ?_
  refine use_b E q fun b H1 Z1 e s E1 q1 => ⟨b, rfl, ?_⟩
  cases b with
  | true => exact ⟨G, B, Z1, e, E1, q1⟩
  | false => exact q1 _ H1 Z1 (Same.refl _) E1 (.bl false)
theorem se_or (ha : SE X T W a f) (hb : SE X T W (.BoolOp .Or (b :: rest) pos) g) : SE X T W (.BoolOp .Or (a :: b :: rest) pos) (cOr f g) := by
  refine PE.weak (pe_or ha hb) fun σ H Q ⟨G, B, Z, env, E, q⟩ => ?_
  refine use_b E q fun b H1 Z1 e s E1 q1 => ⟨b, rfl, ?_⟩
  cases b with
  | true => exact q1 _ H1 Z1 (Same.refl _) E1 (.bl true)
  | false => exact ⟨G, B, Z1, e, E1, q1⟩
theorem se_not (ha : SE X T W a f) : SE X T W (.UnaryOp .Not a pos) (cNot f) := by
  refine PE.weak (pe_not ha) fun σ H Q ⟨G, B, Z, env, E, q⟩ => ?_
  exact use_b E q fun b H1 Z1 e s E1 q1 => ⟨b, rfl, q1 _ H1 Z1 (Same.refl _) E1 (.bl _)⟩
def cIf (t : Env' → RT) (f g : Env' → R) : Env' → R := fun env => (t env).bind fun b e => if b then f e else g e
theorem se_if (hc : ST X T W c t) (ha : SE X T W a f) (hb : SE X T W b g) : SE X T W (.IfExp c a b pos) (cIf t f g) := by
  refine PE.weak (pe_ifExp hc ha hb) fun σ H Q ⟨G, B, Z, env, E, q⟩ => ?_
  refine useTR E q fun b H1 Z1 e s E1 q1 => ?_
  cases b with
  | true => exact ⟨G, B, Z1, e, E1, q1⟩
  | false => exact ⟨G, B, Z1, e, E1, q1⟩

variable {es : List Expr} {fa : Env' → RA}
def cA0 : Env' → RA := fun e => .ok [] e
def cAd (f : Env' → R) (fa : Env' → RA) : Env' → RA := fun env => (f env).bindA fun d e => match fa e with | .ok as e' => .ok (.d d :: as) e' | .ex x e' => .ex x e' | .no => .no
def cAs (i : Nat) (fa : Env' → RA) : Env' → RA := fun env => match env[i]? with
  | some (.own _ _) => match fa env with | .ok as e' => .ok (.s i :: as) e' | .ex x e' => .ex x e' | .no => .no
  | _ => .no
theorem sa_0 : SA X T W [] cA0 := PA.weak pa_nil fun σ H Q ⟨G, B, Z, env, E, q⟩ => q [] H Z (Same.refl _) E True.intro
theorem sa_d (ha : SE X T W a f) (hr : SA X T W es fa) (hs : starEach (a :: es) X.env = (false, eval a X.env) :: starEach es X.env := by rfl) : SA X T W (a :: es) (cAd f fa) := by
  refine PA.weak (pa_cons ha hr hs) fun σ H Q ⟨G, B, Z, env, E, q⟩ => ?_
  refine useA E q fun v H1 Z1 e d s E1 r q1 => ⟨G, B, Z1, e, E1, ?_⟩
  cases h : fa e with
  | ok as e' =>
    rw [h] at q1
    exact fun vs H2 Z2 s2 E2 r2 => q1 (v :: vs) H2 Z2 s2 E2 ⟨r.mono s2, r2⟩
  | ex x e' => rw [h] at q1; exact q1
  | no => rw [h] at q1; exact q1
theorem sa_s (i : Nat) {x : Str} (hr : SA X T W es fa) (hN : X.N[i]? = some x := by rfl) (hv : Vis X.env.scope x := by first | exact Or.inl rfl | exact Or.inr (Or.inl rfl) | exact Or.inr (Or.inr rfl)) (hd : (x == ("__debug__" : Str)) = false := by decide)
    (hcd : (x == ("__classdict__" : Str)) = false := by decide) (hs : starEach (.Name x pos :: es) X.env = (false, eval (.Name x pos) X.env) :: starEach es X.env := by rfl) : SA X T W (.Name x pos :: es) (cAs i fa) := by
  refine PA.weak (pa_cons (pe_var hN hv hd hcd) hr hs) fun σ H Q ⟨G, B, Z, env, E, q⟩ => ?_
  unfold cAs at q
  cases h : env[i]? with
  | none => rw [h] at q; exact q.elim
  | some w =>
    rw [h] at q
    cases w with
    | un => exact q.elim
    | val d => exact q.elim
    | own b o =>
      obtain ⟨p, ho, e1, _⟩ := E.own i b o h
      refine ⟨_, e1, G, B, Z, env, E, ?_⟩
      cases h2 : fa env with
      | ok as e' =>
        rw [h2] at q
        exact fun vs H2 Z2 s2 E2 r2 => q (.ref p :: vs) H2 Z2 s2 E2 ⟨e1, r2⟩
      | ex x e' => rw [h2] at q; exact q
      | no => rw [h2] at q; exact q
def avD : List AV → Option (List D)
  | [] => some []
  | .d d :: as => (avD as).map (d :: ·)
  | .s _ :: _ => none
theorem AVOk.reps {Z : Hp} {σ : St} : ∀ {vs : List V} {as : List AV} {ds : List D}, AVOk T Z σ vs as → avD as = some ds → Reps T Z vs ds
  | [], [], _, _, e => by cases e; exact .nil
  | v :: vs, .d d :: as, ds, h, e => by
    have e' : (avD as).map (d :: ·) = some ds := e
    cases q : avD as with
    | none => rw [q] at e'; cases e'
    | some r => rw [q] at e'; cases e'; exact .cons h.1 (AVOk.reps h.2 q)
  | _ :: _, .s _ :: _, _, _, e => by cases e
  | [], .d _ :: _, _, h, _ => h.elim
  | [], .s _ :: _, _, h, _ => h.elim
  | _ :: _, [], _, h, _ => h.elim
def cTup (fa : Env' → RA) : Env' → R := fun env => (fa env).bind fun as e => match avD as with | some ds => if ds.length ≤ 16777216 then .ok (.d (.tup ds)) e else .no | none => .no
def cLst (fa : Env' → RA) : Env' → R := fun env => (fa env).bind fun as e => match avD as with | some ds => if ds.length ≤ 16777216 then .ok (.o (.l ds)) e else .no | none => .no
theorem se_tup {k} (h : SA X T W es fa) : SE X T W (.Tuple es k pos) (cTup fa) := by
  refine PE.weak (pe_tup h) fun σ H Q ⟨G, B, Z, env, E, q⟩ => ?_
  refine useAR E q fun vs H1 Z1 e as s E1 r q1 => ?_
  cases hd : avD as with
  | none => rw [hd] at q1; exact q1.elim
  | some ds =>
    rw [hd] at q1
    dsimp only at q1
    have rs := r.reps hd
    by_cases hl : ds.length ≤ 16777216
    · rw [if_pos hl] at q1
      refine ⟨by rw [rs.length, sizeLine_eq]; exact hl, fun p hp => ?_⟩
      obtain ⟨s2, E2, r2⟩ := new_tup E1 hp rs
      exact q1 _ _ _ s2 E2 r2
    · rw [if_neg hl] at q1; exact q1.elim
theorem se_lst (h : SA X T W es fa) : SE X T W (.List es pos) (cLst fa) := by
  refine PE.weak (pe_lst h) fun σ H Q ⟨G, B, Z, env, E, q⟩ => ?_
  refine useAR E q fun vs H1 Z1 e as s E1 r q1 => ?_
  cases hd : avD as with
  | none => rw [hd] at q1; exact q1.elim
  | some ds =>
    rw [hd] at q1
    dsimp only at q1
    have rs := r.reps hd
    by_cases hl : ds.length ≤ 16777216
    · rw [if_pos hl] at q1
      refine ⟨by rw [rs.length, sizeLine_eq]; exact hl, fun p hp => ?_⟩
      obtain ⟨E2, r2⟩ := new_list E1 hp rs
      exact q1 _ _ _ (Same.refl _) E2 r2
    · rw [if_neg hl] at q1; exact q1.elim
end
end L2.S

set_option Elab.async false
set_option linter.all false
set_option maxRecDepth 100000
set_option maxHeartbeats 4000000
namespace L2.S
open PySem PySem.Spec PyProof.Rows TL
section
variable {X : Cx} {T : Tb}
theorem op_flat {sem : Value → Value → Sem Value} {p : D → D → Option RV} {r : R2} (ho : OpR X sem r)
    (h : ∀ (G : Gd) (B : List (Nat × Addr)) (Z H : Hp) (σ : St) (env : Env') (x y : V) (dx dy : D) (w : RV) (Q : VK), EOk T G B Z H σ env → Rep T Z x dx → Rep T Z y dy → p dx dy = some w →
      (∀ v H' Z', Same Z Z' → EOk T G B Z' H' σ env → RRep T G Z' H' σ env v w → Q v H') → r x y H Q) : Op2 X T sem p :=
  fun pins s σ H x y v u Q G B Z σ' env dx dy w I rx ry E r1 r2 e c => ho pins s σ H x y v u Q I rx ry (h G B Z H σ' env x y dx dy w Q E r1 r2 e c)
def pI (C : Int → Int → Bool) (g : Int → Int → D) : D → D → Option RV := fun x y => match x, y with | .int i, .int j => if C i j then some (.d (g i j)) else none | _, _ => none
theorem pI_inv {C : Int → Int → Bool} {g : Int → Int → D} {x y : D} {w : RV} (h : pI C g x y = some w) : ∃ i j, x = .int i ∧ y = .int j ∧ C i j = true ∧ w = .d (g i j) := by
  unfold pI at h
  split at h
  · split at h
    · rename_i c
      exact ⟨_, _, rfl, rfl, c, (Option.some.inj h).symm⟩
    · cases h
  · cases h
theorem op_pI {sem : Value → Value → Sem Value} {C : Int → Int → Bool} {g : Int → Int → D} {gv : Int → Int → V} {Cp : Int → Int → Prop} (ho : OpR X sem (rI Cp gv)) (hC : ∀ i j, C i j = true → Cp i j) (hg : ∀ Z i j, C i j = true → Rep T Z (gv i j) (g i j)) : Op2 X T sem (pI C g) :=
  op_flat ho fun G B Z H σ env x y dx dy w Q E r1 r2 e c => by
    obtain ⟨i, j, rfl, rfl, hc, rfl⟩ := pI_inv e
    cases r1
    cases r2
    exact ⟨i, j, rfl, rfl, hC i j hc, c _ H Z (Same.refl _) E (hg Z i j hc)⟩
theorem op_pI0 {sem : Value → Value → Sem Value} {g : Int → Int → D} {gv : Int → Int → V} (ho : OpR X sem (rI0 gv)) (hg : ∀ Z i j, Rep T Z (gv i j) (g i j)) : Op2 X T sem (pI (fun _ _ => true) g) :=
  op_flat ho fun G B Z H σ env x y dx dy w Q E r1 r2 e c => by
    obtain ⟨i, j, rfl, rfl, hc, rfl⟩ := pI_inv e
    cases r1
    cases r2
    exact ⟨i, j, rfl, rfl, c _ H Z (Same.refl _) E (hg Z i j)⟩
def T2 : Int → Int → Bool := fun _ _ => true
def pAddI := pI T2 fun i j => .int (i + j)
def pSubI := pI T2 fun i j => .int (i - j)
def mulOk (i j : Int) : Bool := decide (i.natAbs.log2 + j.natAbs.log2 < 100000000)
def pMulI := pI mulOk fun i j => .int (i * j)
def divOk (_ j : Int) : Bool := decide (0 < j) && decide (j.natAbs.log2 < 9000)
def pDivI := pI divOk fun i j => .int (i / j)
def posOk (_ j : Int) : Bool := decide (0 < j)
def pModI := pI posOk fun i j => .int (i % j)
def powOk (i j : Int) : Bool := decide (0 ≤ j) && (decide (j ≤ 1000000) && decide (i.natAbs < 2 ^ 64))
def pPowI := pI powOk fun i j => .int (i ^ j.toNat)
theorem o_addI : Op2 X T (binaryOp .Add) pAddI := op_pI0 op_add fun Z i j => .int _
theorem o_subI : Op2 X T (binaryOp .Sub) pSubI := op_pI0 op_sub fun Z i j => .int _
theorem o_mulI : Op2 X T (binaryOp .Mult) pMulI := op_pI op_mulX (fun i j h => by
    have h := of_decide_eq_true h
    unfold CMulX Builtin.Int.intBits
    split <;> split <;> omega) fun Z i j _ => .int _
theorem o_divI : Op2 X T (binaryOp .FloorDiv) pDivI := op_pI op_fdivW (fun i j h => by
    unfold divOk at h
    rw [Bool.and_eq_true] at h
    exact ⟨of_decide_eq_true h.1, of_decide_eq_true h.2⟩) fun Z i j _ => .int _
theorem o_modI : Op2 X T (binaryOp .Mod) pModI := op_pI op_mod (fun i j h => of_decide_eq_true h) fun Z i j _ => .int _
theorem o_powI : Op2 X T (binaryOp .Pow) pPowI := op_pI op_pow (fun i j h => by
    unfold powOk at h
    rw [Bool.and_eq_true, Bool.and_eq_true] at h
    exact ⟨of_decide_eq_true h.1, of_decide_eq_true h.2.1, of_decide_eq_true h.2.2⟩) fun Z i j _ => .int _
def pLtI := pI T2 fun i j => .bl (decide (i < j))
def pLeI := pI T2 fun i j => .bl (decide (i ≤ j))
def pGtI := pI T2 fun i j => .bl (decide (j < i))
def pGeI := pI T2 fun i j => .bl (decide (j ≤ i))
theorem o_ltI : Op2 X T (compareOp .Lt) pLtI := op_pI0 op_lt fun Z i j => .bl _
theorem o_leI : Op2 X T (compareOp .LtE) pLeI := op_pI0 op_le fun Z i j => .bl _
theorem o_gtI : Op2 X T (compareOp .Gt) pGtI := op_pI0 op_gt fun Z i j => .bl _
theorem o_geI : Op2 X T (compareOp .GtE) pGeI := op_pI0 op_ge fun Z i j => .bl _

def SZ : Nat := 16777216
theorem SZ_eq : (sizeLine : Nat) = SZ := sizeLine_eq
def pS (C : List Nat → List Nat → Bool) (g : List Nat → List Nat → D) : D → D → Option RV := fun x y => match x, y with | .str i, .str j => if C i j then some (.d (g i j)) else none | _, _ => none
theorem pS_inv {C : List Nat → List Nat → Bool} {g : List Nat → List Nat → D} {x y : D} {w : RV} (h : pS C g x y = some w) : ∃ i j, x = .str i ∧ y = .str j ∧ C i j = true ∧ w = .d (g i j) := by
  unfold pS at h
  split at h
  · split at h
    · rename_i c
      exact ⟨_, _, rfl, rfl, c, (Option.some.inj h).symm⟩
    · cases h
  · cases h
def lenOk (i j : List Nat) : Bool := decide (i.length + j.length ≤ SZ)
def pAddS := pS lenOk fun i j => .str (i ++ j)
theorem str_app (i j : List Nat) : ((⟨i.toArray⟩ : Str) ++ ⟨j.toArray⟩) = ⟨(i ++ j).toArray⟩ := ext_tl (by rw [tl_append])
theorem str_len (i : List Nat) : (⟨i.toArray⟩ : Str).length = i.length := rfl
theorem o_addS : Op2 X T (binaryOp .Add) pAddS := op_flat op_add_str fun G B Z H σ env x y dx dy w Q E r1 r2 e c => by
  obtain ⟨i, j, rfl, rfl, hc, rfl⟩ := pS_inv e
  cases r1
  cases r2
  refine ⟨_, _, rfl, rfl, by rw [str_len, str_len, SZ_eq]; exact of_decide_eq_true hc, ?_⟩
  rw [str_app]
  exact c _ H Z (Same.refl _) E (.str _)
def S2t : List Nat → List Nat → Bool := fun _ _ => true
def pLtS := pS S2t fun i j => .bl (decide (i < j))
def pGtS := pS S2t fun i j => .bl (decide (j < i))
def pLeS := pS S2t fun i j => .bl (!decide (j < i))
def pGeS := pS S2t fun i j => .bl (!decide (i < j))
theorem o_ltS : Op2 X T (compareOp .Lt) pLtS := op_flat op_lt_str fun G B Z H σ env x y dx dy w Q E r1 r2 e c => by
  obtain ⟨i, j, rfl, rfl, hc, rfl⟩ := pS_inv e
  cases r1
  cases r2
  exact ⟨_, _, rfl, rfl, c _ H Z (Same.refl _) E (.bl _)⟩
theorem o_gtS : Op2 X T (compareOp .Gt) pGtS := op_flat op_gt_str fun G B Z H σ env x y dx dy w Q E r1 r2 e c => by
  obtain ⟨i, j, rfl, rfl, hc, rfl⟩ := pS_inv e
  cases r1
  cases r2
  exact ⟨_, _, rfl, rfl, c _ H Z (Same.refl _) E (.bl _)⟩
theorem o_leS : Op2 X T (compareOp .LtE) pLeS := op_flat op_le_str fun G B Z H σ env x y dx dy w Q E r1 r2 e c => by
  obtain ⟨i, j, rfl, rfl, hc, rfl⟩ := pS_inv e
  cases r1
  cases r2
  exact ⟨_, _, rfl, rfl, c _ H Z (Same.refl _) E (.bl _)⟩
theorem o_geS : Op2 X T (compareOp .GtE) pGeS := op_flat op_ge_str fun G B Z H σ env x y dx dy w Q E r1 r2 e c => by
  obtain ⟨i, j, rfl, rfl, hc, rfl⟩ := pS_inv e
  cases r1
  cases r2
  exact ⟨_, _, rfl, rfl, c _ H Z (Same.refl _) E (.bl _)⟩
def one1 (i _ : List Nat) : Bool := i.length == 1
def pInS := pS one1 fun i j => .bl (decide (i.headD 0 ∈ j))
def pNinS := pS one1 fun i j => .bl (!decide (i.headD 0 ∈ j))
theorem one1_inv {i j : List Nat} (h : one1 i j = true) : ∃ c, i = [c] := by
  unfold one1 at h
  match i, h with
  | [c], _ => exact ⟨c, rfl⟩
theorem o_inS : Op2 X T (compareOp .In) pInS := op_flat op_in_sign fun G B Z H σ env x y dx dy w Q E r1 r2 e c => by
  obtain ⟨i, j, rfl, rfl, hc, rfl⟩ := pS_inv e
  obtain ⟨ch, rfl⟩ := one1_inv hc
  cases r1
  cases r2
  exact ⟨ch, _, rfl, rfl, c _ H Z (Same.refl _) E (.bl _)⟩
theorem o_ninS : Op2 X T (compareOp .NotIn) pNinS := op_flat op_notIn_sign fun G B Z H σ env x y dx dy w Q E r1 r2 e c => by
  obtain ⟨i, j, rfl, rfl, hc, rfl⟩ := pS_inv e
  obtain ⟨ch, rfl⟩ := one1_inv hc
  cases r1
  cases r2
  exact ⟨ch, _, rfl, rfl, c _ H Z (Same.refl _) E (.bl _)⟩
def pMulS : D → D → Option RV := fun x y => match x, y with
  | .str i, .int n => if decide (0 ≤ n) && decide (i.length * n.toNat ≤ SZ) && decide (n ≤ 16777216) then some (.d (.str (List.replicate n.toNat i).flatten)) else none
  | _, _ => none
theorem foldl_cps (a : Array Nat) : ∀ (k : Nat) (acc : Array Nat), ((List.replicate k a).foldl (· ++ ·) acc).toList = acc.toList ++ (List.replicate k a.toList).flatten
  | 0, acc => by simp
  | k + 1, acc => by
    rw [List.replicate_succ, List.foldl_cons, foldl_cps a k, List.replicate_succ, List.flatten_cons, Array.toList_append, List.append_assoc]
theorem o_mulS : Op2 X T (binaryOp .Mult) pMulS := fun pins s σ H x y v u Q G B Z σ' env dx dy w I rx ry E r1 r2 e c => by
  unfold pMulS at e
  split at e
  · rename_i i n
    split at e
    · rename_i hc
      cases e
      rw [Bool.and_eq_true, Bool.and_eq_true] at hc
      have h0 := of_decide_eq_true hc.1.1
      have h1 := of_decide_eq_true hc.1.2
      have h2 := of_decide_eq_true hc.2
      cases r1
      cases r2
      obtain ⟨t, rfl⟩ := rx
      obtain ⟨t', rfl⟩ := ry
      have hlen : (⟨i.toArray⟩ : Str).length = i.length := rfl
      have fin : ∀ (z : Str) (k : Tok) (s' : Nat), tl z = (List.replicate n.toNat i).flatten → EP X pins σ Q (.str z k) { s with toks := s' } := fun z k s' hz => by
        have ez : z = ⟨(List.replicate n.toNat i).flatten.toArray⟩ := ext_tl (by rw [hz])
        subst ez
        exact ⟨.str _, H, I.tok _, ⟨_, rfl⟩, c _ H Z (Same.refl _) E (.str _)⟩
      refine SB.mul ⟨?_, fun h3 _ => ?_, fun _ _ => ?_⟩ fun t2 k => ?_
      · have a : ¬ n < -(2 ^ 63 : Int) := by omega
        have b : ¬ n ≥ 2 ^ 63 := by omega
        rw [decide_eq_false a, decide_eq_false b]; rfl
      · rw [hlen]
        have hn : 1 ≤ n.toNat := by omega
        have hl : i.length ≤ SZ := Nat.le_trans (Nat.le_mul_of_pos_right _ hn) h1
        have hsz : SZ = 16777216 := rfl
        have : (549755813887 : Int) ≤ (2 ^ 63 - 1) / n := Int.le_ediv_of_mul_le (by omega) (by omega)
        omega
      · rw [hlen]
        unfold Builtin.Str.tooLong
        have : ¬ i.length * n.toNat > sizeLine := by rw [SZ_eq]; omega
        simp only [this, decide_false]
      · unfold Txt.mul
        by_cases h3 : n < 1
        · rw [if_pos h3]
          have : n.toNat = 0 := by omega
          refine fin _ _ _ ?_
          rw [this]
          rfl
        · rw [if_neg h3]
          refine fin _ _ _ ?_
          split
          · rename_i hq
            simp only [Bool.or_eq_true, beq_iff_eq] at hq
            rcases hq with hq | hq
            · subst hq
              simp
            · have : i = [] := List.eq_nil_of_length_eq_zero hq
              subst this
              simp
          · show Array.toList _ = _
            rw [foldl_cps]
            simp
    · cases e
  · cases e

def pAddT : D → D → Option RV := fun x y => match x, y with
  | .tup a, .tup b => if !a.isEmpty && decide (a.length + b.length ≤ SZ) then some (.d (.tup (a ++ b))) else none
  | _, _ => none
theorem o_addT (hT : X.K = T.K) : Op2 X T (binaryOp .Add) pAddT := op_flat op_catT fun G B Z H σ env x y dx dy w Q E r1 r2 e c => by
  unfold pAddT at e
  split at e
  · rename_i a b
    split at e
    · rename_i hc
      cases e
      rw [Bool.and_eq_true] at hc
      have h1 := of_decide_eq_true hc.2
      cases r1 with
      | tup ha ra =>
        cases r2 with
        | tup hb rb =>
          refine ⟨_, _, _, _, rfl, rfl, by rw [hT]; exact sqt_mono E.sub ha, by rw [hT]; exact sqt_mono E.sub hb, fun z => ?_, by rw [ra.length, rb.length, SZ_eq]; exact h1, fun z => ?_, fun _ p hp => ?_⟩
          · subst z
            cases ra
            simp at hc
          · subst z
            cases rb
            refine c _ H Z (Same.refl _) E ?_
            rw [List.append_nil]
            exact .tup ha ra
          · obtain ⟨s, E', r'⟩ := new_tup E hp (ra.append rb)
            exact c _ _ _ s E' r'
    · cases e
  · cases e
def pAddL : D → D → Option RV := fun x y => match x, y with
  | .lst a, .lst b => if decide (a.length + b.length ≤ SZ) then some (.o (.l (a ++ b))) else none
  | _, _ => none
theorem o_addL : Op2 X T (binaryOp .Add) pAddL := op_flat op_cat fun G B Z H σ env x y dx dy w Q E r1 r2 e c => by
  unfold pAddL at e
  split at e
  · rename_i a b
    split at e
    · rename_i hc
      cases e
      have h1 := of_decide_eq_true hc
      cases r1 with
      | lst ha ra =>
        cases r2 with
        | lst hb rb =>
          refine ⟨_, _, _, _, rfl, rfl, E.sub _ _ ha, E.sub _ _ hb, by rw [ra.length, rb.length, SZ_eq]; exact h1, fun p hp => ?_⟩
          obtain ⟨E', r'⟩ := new_list E hp (ra.append rb)
          exact c _ _ _ (Same.refl _) E' r'
    · cases e
  · cases e
def pMulL : D → D → Option RV := fun x y => match x, y with
  | .lst a, .int k => if decide (0 ≤ k) && (decide (k ≤ 16777216) && decide (a.length * k.toNat ≤ SZ)) then some (.o (.l (List.replicate k.toNat a).flatten)) else none
  | _, _ => none
theorem Reps.rep {Z : Hp} {vs : List V} {ds : List D} (r : Reps T Z vs ds) : ∀ k, Reps T Z (List.replicate k vs).flatten (List.replicate k ds).flatten
  | 0 => .nil
  | k + 1 => by
    rw [List.replicate_succ, List.replicate_succ, List.flatten_cons, List.flatten_cons]
    exact r.append (Reps.rep r k)
theorem o_mulL : Op2 X T (binaryOp .Mult) pMulL := op_flat op_rep fun G B Z H σ env x y dx dy w Q E r1 r2 e c => by
  unfold pMulL at e
  split at e
  · rename_i a k
    split at e
    · rename_i hc
      cases e
      rw [Bool.and_eq_true, Bool.and_eq_true] at hc
      have h0 := of_decide_eq_true hc.1
      have h1 := of_decide_eq_true hc.2.1
      have h2 := of_decide_eq_true hc.2.2
      cases r1 with
      | lst ha ra =>
        cases r2
        refine ⟨_, _, _, rfl, rfl, E.sub _ _ ha, by omega, by omega, by rw [ra.length, SZ_eq]; exact h2, fun p hp => ?_⟩
        obtain ⟨E', r'⟩ := new_list E hp (ra.rep k.toNat)
        exact c _ _ _ (Same.refl _) E' r'
    · cases e
  · cases e

mutual
def eqD : D → D → Bool
  | .non, .non => true
  | .bl a, .bl b => a == b
  | .int a, .int b => a == b
  | .str a, .str b => a == b
  | .tup a, .tup b => eqDs a b
  | .lst a, .lst b => eqDs a b
  | .lst a, .ro b => eqDs a b
  | .ro a, .lst b => eqDs a b
  | .ro a, .ro b => eqDs a b
  | .obj c a, .obj k b => c == k && eqDs a b
  | _, _ => false
def eqDs : List D → List D → Bool
  | [], [] => true
  | x :: xs, y :: ys => eqD x y && eqDs xs ys
  | _, _ => false
end
mutual
def noMix : D → D → Bool
  | .bl _, .int _ => false
  | .int _, .bl _ => false
  | .tup a, .tup b => noMixs a b
  | .lst a, .lst b => noMixs a b
  | .lst a, .ro b => noMixs a b
  | .ro a, .lst b => noMixs a b
  | .ro a, .ro b => noMixs a b
  | _, _ => true
def noMixs : List D → List D → Bool
  | x :: xs, y :: ys => noMix x y && noMixs xs ys
  | _, _ => true
end
mutual
def plain : Nat → D → Bool
  | _, .non => true
  | _, .bl _ => true
  | _, .int _ => true
  | _, .str l => l.all (· < 0x110000)
  | k + 1, .tup a => plains k a
  | k + 1, .lst a => plains k a
  | k + 1, .ro a => plains k a
  | _, _ => false
def plains : Nat → List D → Bool
  | _, [] => true
  | k, x :: xs => plain k x && plains k xs
end
mutual
def pd : D → PyData
  | .non => .none
  | .bl b => .bool b
  | .int i => .int i
  | .str l => .str ⟨l.toArray⟩
  | .tup a => .tuple (pds a)
  | .lst a => .list (pds a)
  | .ro a => .list (pds a)
  | _ => .none
def pds : List D → List PyData
  | [] => []
  | x :: xs => pd x :: pds xs
end
mutual
theorem pd_lay : ∀ (k : Nat) (d : D), plain k d = true → (pd d).canLay0 = true ∧ (pd d).depth ≤ k
  | k, .non, _ => ⟨rfl, Nat.zero_le _⟩
  | k, .bl _, _ => ⟨rfl, Nat.zero_le _⟩
  | k, .int _, _ => ⟨rfl, Nat.zero_le _⟩
  | k, .str l, h => by
    unfold plain at h
    refine ⟨?_, by show 0 ≤ k; exact Nat.zero_le _⟩
    show PyData.strOk ⟨l.toArray⟩ = true
    unfold PyData.strOk
    simpa using h
  | k + 1, .tup a, h => by
    unfold plain at h
    obtain ⟨h1, h2⟩ := pds_lay k a h
    exact ⟨h1, Nat.succ_le_succ h2⟩
  | k + 1, .lst a, h => by
    unfold plain at h
    obtain ⟨h1, h2⟩ := pds_lay k a h
    exact ⟨h1, Nat.succ_le_succ h2⟩
  | k + 1, .ro a, h => by
    unfold plain at h
    obtain ⟨h1, h2⟩ := pds_lay k a h
    exact ⟨h1, Nat.succ_le_succ h2⟩
  | 0, .tup a, h => by simp [plain] at h
  | 0, .lst a, h => by simp [plain] at h
  | 0, .ro a, h => by simp [plain] at h
  | k, .obj _ _, h => by simp [plain] at h
  | k, .fn _, h => by simp [plain] at h
  | k, .ty _, h => by simp [plain] at h
  | k, .cls _, h => by simp [plain] at h
  | k, .exv _ _ _ _, h => by simp [plain] at h
theorem pds_lay : ∀ (k : Nat) (a : List D), plains k a = true → PyData.canLayAll0 (pds a) = true ∧ PyData.depthAll (pds a) ≤ k
  | k, [], _ => ⟨rfl, Nat.zero_le _⟩
  | k, x :: xs, h => by
    unfold plains at h
    rw [Bool.and_eq_true] at h
    obtain ⟨h1, h2⟩ := pd_lay k x h.1
    obtain ⟨h3, h4⟩ := pds_lay k xs h.2
    refine ⟨?_, ?_⟩
    · show (PyData.canLay0 (pd x) && PyData.canLayAll0 (pds xs)) = true
      rw [h1, h3]; rfl
    · show max (PyData.depth (pd x)) (PyData.depthAll (pds xs)) ≤ k
      omega
end
mutual
theorem Rep.dp {Z H : Hp} (s : Same Z H) : ∀ {v : V} {d : D} (k : Nat), Rep T Z v d → plain k d = true → Dp T.K H v (pd d)
  | _, _, _, .non, _ => .non
  | _, _, _, .bl b, _ => .bl b
  | _, _, _, .int i, _ => .int i
  | _, _, _, .str l, _ => .str _
  | _, _, k + 1, .tup h r, p => by unfold plain at p; exact .tup (sqt_mono s h) (Reps.dp s k r p)
  | _, _, k + 1, .lst h r, p => by unfold plain at p; exact .lst (SqL.of (s _ _ h)) (Reps.dp s k r p)
  | _, _, k + 1, .ro h r, p => by unfold plain at p; exact .lst (s.seq h) (Reps.dp s k r p)
  | _, _, 0, .tup h r, p => by simp [plain] at p
  | _, _, 0, .lst h r, p => by simp [plain] at p
  | _, _, 0, .ro h r, p => by simp [plain] at p
  | _, _, _, .obj _ _ _, p => by simp [plain] at p
  | _, _, _, .fn _, p => by simp [plain] at p
  | _, _, _, .ty _, p => by simp [plain] at p
  | _, _, _, .cls _, p => by simp [plain] at p
  | _, _, _, .exv0, p => by simp [plain] at p
  | _, _, _, .exv _ _ _, p => by simp [plain] at p
theorem Reps.dp {Z H : Hp} (s : Same Z H) : ∀ {vs : List V} {ds : List D} (k : Nat), Reps T Z vs ds → plains k ds = true → DpAll T.K H vs (pds ds)
  | _, _, _, .nil, _ => .nil
  | _, _, k, .cons h r, p => by
    unfold plains at p
    rw [Bool.and_eq_true] at p
    exact .cons (Rep.dp s k h p.1) (Reps.dp s k r p.2)
end
theorem str_beq (a b : List Nat) : ((⟨a.toArray⟩ : Str) == ⟨b.toArray⟩) = (a == b) := by
  rw [Bool.eq_iff_iff, beq_iff_eq, beq_iff_eq]
  exact ⟨fun h => by have := congrArg tl h; exact this, fun h => by rw [h]⟩
mutual
theorem eqv_eq : ∀ (k j : Nat) (d e : D), plain k d = true → plain j e = true → noMix d e = true → PyData.eqv (pd d) (pd e) = eqD d e
  | k, j, d, e, h1, h2, h3 => by
    cases d <;> cases e <;> first
      | (simp [plain] at h1; done)
      | (simp [plain] at h2; done)
      | (simp [noMix] at h3; done)
      | (simp only [pd, PyData.eqv, eqD]; done)
      | (simp only [pd, PyData.eqv, eqD]; exact str_beq _ _)
      | (cases k with
         | zero => simp [plain] at h1
         | succ k =>
           cases j with
           | zero => simp [plain] at h2
           | succ j =>
             simp only [plain] at h1 h2
             simp only [noMix] at h3
             simp only [pd, PyData.eqv, eqD]
             exact eqvs_eq k j _ _ h1 h2 h3)
theorem eqvs_eq : ∀ (k j : Nat) (d e : List D), plains k d = true → plains j e = true → noMixs d e = true → PyData.eqvAll (pds d) (pds e) = eqDs d e
  | k, j, [], [], _, _, _ => rfl
  | k, j, [], _ :: _, _, _, _ => rfl
  | k, j, _ :: _, [], _, _, _ => rfl
  | k, j, x :: xs, y :: ys, h1, h2, h3 => by
    unfold plains at h1 h2
    unfold noMixs at h3
    rw [Bool.and_eq_true] at h1 h2 h3
    show (PyData.eqv (pd x) (pd y) && PyData.eqvAll (pds xs) (pds ys)) = (eqD x y && eqDs xs ys)
    rw [eqv_eq k j x y h1.1 h2.1 h3.1, eqvs_eq k j xs ys h1.2 h2.2 h3.2]
end
def scD : D → D → Bool
  | .non, .non => true | .non, .int _ => true | .int _, .non => true | .non, .bl _ => true | .bl _, .non => true | .non, .str _ => true | .str _, .non => true
  | .int _, .int _ => true | .bl _, .bl _ => true | .str _, .str _ => true
  | .int _, .str _ => true | .str _, .int _ => true | .bl _, .str _ => true | .str _, .bl _ => true
  | _, _ => false
def pEqF (neg : Bool) : D → D → Option RV := fun x y => if scD x y then some (.d (.bl (if neg then !eqD x y else eqD x y))) else none
theorem str_inj {a b : List Nat} : (V.str ⟨a.toArray⟩ = V.str ⟨b.toArray⟩) ↔ a = b := ⟨fun h => by
  have h' : (⟨a.toArray⟩ : Str) = ⟨b.toArray⟩ := by injection h
  exact congrArg tl h', fun h => by rw [h]⟩
theorem o_eqF : Op2 X T (compareOp .Eq) (pEqF false) := op_flat op_eq fun G B Z H σ env x y dx dy w Q E r1 r2 e c => by
  unfold pEqF at e
  split at e
  · rename_i hc
    cases e
    have fin : ∀ b, (b = eqD dx dy) → Q (.bl b) H := fun b hb => c _ H Z (Same.refl _) E (by rw [hb]; exact .bl _)
    cases r1 <;> cases r2 <;> first
      | (simp [scD] at hc; done)
      | (refine ⟨rfl, fin _ ?_⟩; simp [eqD]; done)
      | (refine ⟨rfl, fin _ ?_⟩; simp only [str_inj, eqD]; exact (Bool.beq_eq_decide_eq _ _).symm)
      | (refine ⟨rfl, fin _ ?_⟩; simp only [eqD, V.int.injEq, V.bl.injEq]; exact (Bool.beq_eq_decide_eq _ _).symm)
  · cases e
theorem o_neF : Op2 X T (compareOp .NotEq) (pEqF true) := op_flat op_ne fun G B Z H σ env x y dx dy w Q E r1 r2 e c => by
  unfold pEqF at e
  split at e
  · rename_i hc
    cases e
    have fin : ∀ b, (b = !eqD dx dy) → Q (.bl b) H := fun b hb => c _ H Z (Same.refl _) E (by rw [hb]; exact .bl _)
    cases r1 <;> cases r2 <;> first
      | (simp [scD] at hc; done)
      | (refine ⟨rfl, fin _ ?_⟩; simp [eqD]; done)
      | (refine ⟨rfl, fin _ ?_⟩; simp only [str_inj, eqD]; exact congrArg not (Bool.beq_eq_decide_eq _ _).symm)
      | (refine ⟨rfl, fin _ ?_⟩; simp only [eqD, V.int.injEq, V.bl.injEq]; exact congrArg not (Bool.beq_eq_decide_eq _ _).symm)
  · cases e
def pEqP (neg : Bool) : D → D → Option RV := fun x y => if plain 60 x && (plain 60 y && noMix x y) then some (.d (.bl (if neg then !eqD x y else eqD x y))) else none
theorem o_eqP (hT : X.K = T.K) (hu : X.A.units + 64 < cLine) : Op2 X T (compareOp .Eq) (pEqP false) := op_flat (op_eqD hu) fun G B Z H σ env x y dx dy w Q E r1 r2 e c => by
  unfold pEqP at e
  split at e
  · rename_i hc
    cases e
    rw [Bool.and_eq_true, Bool.and_eq_true] at hc
    obtain ⟨h1, h2, h3⟩ := hc
    obtain ⟨a1, a2⟩ := pd_lay 60 dx h1
    obtain ⟨b1, b2⟩ := pd_lay 60 dy h2
    refine ⟨pd dx, pd dy, by rw [hT]; exact r1.dp E.sub 60 h1, by rw [hT]; exact r2.dp E.sub 60 h2, ?_, ?_, ?_⟩
    · unfold SeqAt.shaped; rw [a1, decide_eq_true (by omega)]; rfl
    · unfold SeqAt.shaped; rw [b1, decide_eq_true (by omega)]; rfl
    · rw [eqv_eq 60 60 dx dy h1 h2 h3]
      exact c _ H Z (Same.refl _) E (.bl _)
  · cases e
theorem o_neP (hT : X.K = T.K) (hu : X.A.units + 64 < cLine) : Op2 X T (compareOp .NotEq) (pEqP true) := op_flat (op_neD hu) fun G B Z H σ env x y dx dy w Q E r1 r2 e c => by
  unfold pEqP at e
  split at e
  · rename_i hc
    cases e
    rw [Bool.and_eq_true, Bool.and_eq_true] at hc
    obtain ⟨h1, h2, h3⟩ := hc
    obtain ⟨a1, a2⟩ := pd_lay 60 dx h1
    obtain ⟨b1, b2⟩ := pd_lay 60 dy h2
    refine ⟨pd dx, pd dy, by rw [hT]; exact r1.dp E.sub 60 h1, by rw [hT]; exact r2.dp E.sub 60 h2, ?_, ?_, ?_⟩
    · unfold SeqAt.shaped; rw [a1, decide_eq_true (by omega)]; rfl
    · unfold SeqAt.shaped; rw [b1, decide_eq_true (by omega)]; rfl
    · rw [eqv_eq 60 60 dx dy h1 h2 h3]
      exact c _ H Z (Same.refl _) E (.bl _)
  · cases e
def pIsN : D → D → Option RV := fun x y => match y with | .non => some (.d (.bl (match x with | .non => true | _ => false))) | _ => none
def pNotN : D → D → Option RV := fun x y => match y with | .non => some (.d (.bl (match x with | .non => false | _ => true))) | _ => none
theorem o_isN : Op2 X T (compareOp .Is) pIsN := op_flat op_isN fun G B Z H σ env x y dx dy w Q E r1 r2 e c => by
  cases r2 <;> first | (simp [pIsN] at e; done) | skip
  unfold pIsN at e
  cases e
  refine ⟨rfl, c _ H Z (Same.refl _) E ?_⟩
  cases r1 <;> exact .bl _
theorem o_notN : Op2 X T (compareOp .IsNot) pNotN := op_flat op_notN fun G B Z H σ env x y dx dy w Q E r1 r2 e c => by
  cases r2 <;> first | (simp [pNotN] at e; done) | skip
  unfold pNotN at e
  cases e
  refine ⟨rfl, c _ H Z (Same.refl _) E ?_⟩
  cases r1 <;> exact .bl _
def pAdd := orP pAddI (orP pAddS (orP pAddT pAddL))
def pMul := orP pMulI (orP pMulS pMulL)
def pEq (neg : Bool) := orP (pEqF neg) (pEqP neg)
def pLt := orP pLtI pLtS
def pLe := orP pLeI pLeS
def pGt := orP pGtI pGtS
def pGe := orP pGeI pGeS
theorem o_add (hT : X.K = T.K) : Op2 X T (binaryOp .Add) pAdd := o_addI.or (o_addS.or ((o_addT hT).or o_addL))
theorem o_mul : Op2 X T (binaryOp .Mult) pMul := o_mulI.or (o_mulS.or o_mulL)
theorem o_eq (hT : X.K = T.K) (hu : X.A.units + 64 < cLine) : Op2 X T (compareOp .Eq) (pEq false) := o_eqF.or (o_eqP hT hu)
theorem o_ne (hT : X.K = T.K) (hu : X.A.units + 64 < cLine) : Op2 X T (compareOp .NotEq) (pEq true) := o_neF.or (o_neP hT hu)
theorem o_lt : Op2 X T (compareOp .Lt) pLt := o_ltI.or o_ltS
theorem o_le : Op2 X T (compareOp .LtE) pLe := o_leI.or o_leS
theorem o_gt : Op2 X T (compareOp .Gt) pGt := o_gtI.or o_gtS
theorem o_ge : Op2 X T (compareOp .GtE) pGe := o_geI.or o_geS
end
end L2.S

set_option Elab.async false
set_option linter.all false
set_option maxRecDepth 100000
set_option maxHeartbeats 4000000
namespace L2.S
open PySem PySem.Spec PyProof.Rows
section
variable {X : Cx} {T : Tb} {W : WX} {a b c : Expr} {f g : Env' → R} {pos : Pos} {st : Stmt} {sts rest : List Stmt} {t u : Env' → RS} {tt : Env' → RT}
def sSeq (t u : Env' → RS) : Env' → RS := fun env => match t env with | .nx e => u e | r => r
def sNx : Env' → RS := fun e => .nx e
theorem sss_nil : SSs X T W [] sNx := PSs.weak pss_nil fun K σ H ⟨G, B, Z, env, E, q⟩ => q σ H Z (Same.refl _) E
theorem sss_cons (h1 : SS X T W st t) (h2 : SSs X T W rest u) : SSs X T W (st :: rest) (sSeq t u) := by
  refine PSs.weak (pss_cons h1 h2) fun K σ H ⟨G, B, Z, env, E, q⟩ => ⟨G, B, Z, env, E, ?_⟩
  unfold sSeq at q
  cases h : t env with
  | nx e =>
    rw [h] at q
    exact fun σ' H' Z' s E' => ⟨G, B, Z', e, E', PRS.mono s (r := u e) q⟩
  | bk e => rw [h] at q; exact q
  | ct e => rw [h] at q; exact q
  | rt r e => rw [h] at q; exact q
  | ex x e => rw [h] at q; exact q
  | no => rw [h] at q; exact q.elim
theorem sss_one (h1 : SS X T W st t) : SSs X T W [st] t := pss_one h1
theorem ss_pass : SS X T W (.Pass pos) sNx := PS.weak ps_pass fun K σ H ⟨G, B, Z, env, E, q⟩ => q σ H Z (Same.refl _) E
theorem ss_doc {x j pos'} : SS X T W (.Expr (.Constant (.str x) j pos') pos) sNx := PS.weak ps_doc fun K σ H ⟨G, B, Z, env, E, q⟩ => q σ H Z (Same.refl _) E
def sBk : Env' → RS := fun e => .bk e
def sCt : Env' → RS := fun e => .ct e
theorem ss_break : SS X T W (.Break pos) sBk := PS.weak ps_break fun K σ H ⟨G, B, Z, env, E, q⟩ => q σ H Z (Same.refl _) E
theorem ss_continue : SS X T W (.Continue pos) sCt := PS.weak ps_continue fun K σ H ⟨G, B, Z, env, E, q⟩ => q σ H Z (Same.refl _) E
def sDrop (f : Env' → R) : Env' → RS := fun env => (f env).bindR fun _ e => .nx e
theorem ss_expr (he : SE X T W a f) (hs : swapsWith a none pos.line X.env = pure false := by rfl) : SS X T W (.Expr a pos) (sDrop f) := by
  refine PS.weak (ps_expr he hs) fun K σ H ⟨G, B, Z, env, E, q⟩ => ?_
  exact useRV E q fun v H1 Z1 e r s E1 r1 q1 => q1 σ H1 Z1 (Same.refl _) E1
def sRet (f : Env' → R) : Env' → RS := fun env => (f env).bindR fun r e => .rt r e
theorem ss_ret (he : SE X T W a f) : SS X T W (.Return (some a) pos) (sRet f) := by
  refine PS.weak (ps_ret he) fun K σ H ⟨G, B, Z, env, E, q⟩ => ?_
  exact useRV E q fun v H1 Z1 e r s E1 r1 q1 => q1 v σ H1 Z1 (Same.refl _) E1 r1
def sRetN : Env' → RS := fun e => .rt (.d .non) e
theorem ss_retN : SS X T W (.Return none pos) sRetN := PS.weak ps_retN fun K σ H ⟨G, B, Z, env, E, q⟩ => q .non σ H Z (Same.refl _) E .non
def sRetO (i : Nat) : Env' → RS := fun e => match e[i]? with | some (.own false o) => .rt (.o o) (e.set i .un) | _ => .no
theorem EOk.forget {G : Gd} {Z H : Hp} {B : List (Nat × Addr)} {σ : St} {env : Env'} {i : Nat} {o : OB} (E : EOk T G B Z H σ env) (h : env[i]? = some (.own false o)) :
    ∃ a, σ[i]? = some (some (.ref a)) ∧ EOk T G B Z H σ (env.set i .un) ∧ RRep T G Z H σ (env.set i .un) (.ref a) (.o o) := by
  obtain ⟨a, ho, e1, e2, r, e4, e5⟩ := E.own i false o h
  have hi : i < env.length := (List.getElem?_eq_some_iff.mp h).1
  have own' : ∀ j b, Own σ (env.set i .un) j b → j ≠ i ∧ Own σ env j b := fun j b ⟨⟨b1, o, q⟩, q2⟩ => by
    by_cases hj : i = j
    · subst hj
      rw [List.getElem?_set_self hi] at q
      cases q
    · rw [List.getElem?_set_ne hj] at q
      exact ⟨fun z => hj z.symm, ⟨b1, o, q⟩, q2⟩
  have ga : G.g a = none := by
    rcases e5 with ⟨z, _⟩ | ⟨_, z⟩
    · cases z
    · exact z
  refine ⟨a, e1, ⟨by rw [List.length_set]; exact E.len, E.sub, E.nof, E.keep, fun j d q => ?_, fun j b o q => ?_, fun j b q => ?_, fun j k b n o1 o2 => E.dis j k b n (own' j b o1).2 (own' k b o2).2⟩, a, ho, rfl, e2, r, e4, ga, fun j oj => ?_⟩
  · by_cases hj : i = j
    · subst hj
      rw [List.getElem?_set_self hi] at q
      cases q
    · rw [List.getElem?_set_ne hj] at q
      exact E.val j d q
  · by_cases hj : i = j
    · subst hj
      rw [List.getElem?_set_self hi] at q
      cases q
    · rw [List.getElem?_set_ne hj] at q
      exact E.own j b o q
  · obtain ⟨⟨o2, q1⟩, q2⟩ := E.bor j b q
    refine ⟨⟨o2, ?_⟩, q2⟩
    rw [List.getElem?_set_ne fun z => by rw [← z, h] at q1; cases q1]
    exact q1
  · obtain ⟨n, oj'⟩ := own' j a oj
    exact E.dis j i a n oj' ⟨⟨_, _, h⟩, e1⟩
theorem ss_retO (i : Nat) {x : Str} {p : Pos} (hN : X.N[i]? = some x := by rfl) (hv : Vis X.env.scope x := by first | exact Or.inl rfl | exact Or.inr (Or.inl rfl) | exact Or.inr (Or.inr rfl)) (hd : (x == ("__debug__" : Str)) = false := by decide)
    (hcd : (x == ("__classdict__" : Str)) = false := by decide) : SS X T W (.Return (some (.Name x p)) pos) (sRetO i) := by
  refine PS.weak (ps_ret (pe_var hN hv hd hcd)) fun K σ H ⟨G, B, Z, env, E, q⟩ => ?_
  unfold sRetO at q
  split at q
  · rename_i o h
    obtain ⟨a, e1, E', r⟩ := E.forget h
    exact ⟨_, e1, q _ σ H Z (Same.refl _) E' r⟩
  · exact q.elim
def sIf (c : Env' → RT) (t u : Env' → RS) : Env' → RS := fun env => (c env).bindS fun b e => if b then t e else u e
theorem ss_if {ba bb : List Stmt} (hc : ST X T W c tt) (ha : SSs X T W ba t) (hb : SSs X T W bb u) : SS X T W (.If c ba bb pos) (sIf tt t u) := by
  refine PS.weak (ps_if hc ha hb) fun K σ H ⟨G, B, Z, env, E, q⟩ => ?_
  refine useTS E q fun b H1 Z1 e s E1 q1 => ?_
  cases b with
  | true => exact ⟨G, B, Z1, e, E1, q1⟩
  | false => exact ⟨G, B, Z1, e, E1, q1⟩

def canSet (env : Env') (i : Nat) : Bool := match env[i]? with | some (.own true _) => false | some _ => true | none => false
def ofR : RV → SV
  | .d d => .val d
  | .o o => .own false o
theorem own_set {σ : St} {env : Env'} {i : Nat} {v : V} {w : SV} (hi : i < env.length) (hl : σ.length = env.length) {j : Nat} {b : Addr} (o : Own (σ.set i (some v)) (env.set i w) j b) : (j = i ∧ v = .ref b ∧ ∃ b1 o, w = .own b1 o) ∨ (j ≠ i ∧ Own σ env j b) := by
  obtain ⟨⟨b1, o, q⟩, q2⟩ := o
  by_cases hj : i = j
  · subst hj
    rw [List.getElem?_set_self hi] at q
    rw [List.getElem?_set_self (by rw [hl]; exact hi)] at q2
    cases q
    refine .inl ⟨rfl, ?_, _, _, rfl⟩
    exact Option.some.inj (Option.some.inj q2)
  · rw [List.getElem?_set_ne hj] at q q2
    exact .inr ⟨fun z => hj z.symm, ⟨b1, o, q⟩, q2⟩
theorem EOk.store {G : Gd} {Z H : Hp} {B : List (Nat × Addr)} {σ : St} {env : Env'} {i : Nat} {v : V} {r : RV} (E : EOk T G B Z H σ env) (h : canSet env i = true) (rr : RRep T G Z H σ env v r) : EOk T G B Z H (σ.set i (some v)) (env.set i (ofR r)) := by
  unfold canSet at h
  cases hw : env[i]? with
  | none => rw [hw] at h; cases h
  | some w0 =>
  have hi : i < env.length := (List.getElem?_eq_some_iff.mp hw).1
  have hiσ : i < σ.length := by rw [E.len]; exact hi
  refine ⟨by rw [List.length_set, List.length_set]; exact E.len, E.sub, E.nof, E.keep, fun j d q => ?_, fun j b o q => ?_, fun j b q => ?_, fun j k b n o1 o2 => ?_⟩
  · by_cases hj : i = j
    · subst hj
      rw [List.getElem?_set_self hi] at q
      cases r with
      | d d' => cases q; exact ⟨v, List.getElem?_set_self hiσ, rr⟩
      | o o => cases q
    · rw [List.getElem?_set_ne hj] at q
      obtain ⟨v', q1, q2⟩ := E.val j d q
      exact ⟨v', by rw [List.getElem?_set_ne hj]; exact q1, q2⟩
  · by_cases hj : i = j
    · subst hj
      rw [List.getElem?_set_self hi] at q
      cases r with
      | d d' => cases q
      | o o' =>
        cases q
        obtain ⟨a, ho, rfl, e1, e2, e3, e4, e5⟩ := rr
        exact ⟨a, ho, List.getElem?_set_self hiσ, e1, e2, e3, .inr ⟨rfl, e4⟩⟩
    · rw [List.getElem?_set_ne hj] at q
      obtain ⟨a, ho, q1, q2⟩ := E.own j b o q
      exact ⟨a, ho, by rw [List.getElem?_set_ne hj]; exact q1, q2⟩
  · obtain ⟨⟨o, q1⟩, q2⟩ := E.bor j b q
    have hj : i ≠ j := fun z => by
      rw [← z, hw] at q1
      cases q1
      rw [hw] at h
      cases h
    exact ⟨⟨o, by rw [List.getElem?_set_ne hj]; exact q1⟩, by rw [List.getElem?_set_ne hj]; exact q2⟩
  · have key : ∀ {b : Addr}, v = .ref b → (∃ b1 o, ofR r = .own b1 o) → ∀ j, ¬ Own σ env j b := fun {b} ev ⟨b1, o, eo⟩ j => by
      cases r with
      | d d => cases eo
      | o o' =>
        obtain ⟨a, ho, ev2, e1, e2, e3, e4, e5⟩ := rr
        rw [ev] at ev2
        cases ev2
        exact e5 j
    rcases own_set hi E.len o1 with ⟨ej, ev, eo⟩ | ⟨n1, p1⟩
    · rcases own_set hi E.len o2 with ⟨ek, _, _⟩ | ⟨n2, p2⟩
      · exact n (ej.trans ek.symm)
      · exact key ev eo k p2
    · rcases own_set hi E.len o2 with ⟨ek, ev, eo⟩ | ⟨n2, p2⟩
      · exact key ev eo j p1
      · exact E.dis j k b n p1 p2
def sSetO (i : Nat) (f : Env' → R) : Env' → RS := fun env => (f env).bindR fun r e => if canSet e i then .nx (e.set i (ofR r)) else .no
def sSet (i : Nat) (f : Env' → R) : Env' → RS := fun env => (f env).bindS fun d e => if canSet e i then .nx (e.set i (.val d)) else .no
theorem set_reads {i : Nat} {te : TE} (hte : te = tX T W f) : ∀ K σ H, tXS T W (sSet i f) K σ H → tAsg te (gName i) K σ H := fun K σ H ⟨G, B, Z, env, E, q⟩ => by
  subst hte
  refine useS E q fun v H1 Z1 e d s E1 r q1 => ?_
  by_cases h : canSet e i = true
  · rw [if_pos h] at q1
    exact q1 _ H1 Z1 (Same.refl _) (E1.store (r := .d d) h r)
  · rw [if_neg h] at q1; exact q1.elim
theorem setO_reads {i : Nat} {te : TE} (hte : te = tX T W f) : ∀ K σ H, tXS T W (sSetO i f) K σ H → tAsg te (gName i) K σ H := fun K σ H ⟨G, B, Z, env, E, q⟩ => by
  subst hte
  refine useRV E q fun v H1 Z1 e r s E1 rr q1 => ?_
  by_cases h : canSet e i = true
  · rw [if_pos h] at q1
    exact q1 _ H1 Z1 (Same.refl _) (E1.store h rr)
  · rw [if_neg h] at q1; exact q1.elim
theorem ss_set {i : Nat} {x : Str} {pos' : Pos} (hN : X.N.Nodup) (he : SE X T W a f) (hi : X.N[i]? = some x := by rfl) (hx : Loc X.env.scope x := by first | exact Or.inl rfl | exact Or.inr rfl) (hs : swapsWith a (some (.Name x pos')) pos.line X.env = pure false := by rfl) (hf : X.fn x = true ∨ X.env.scope.names.lookup x = some .local := by first | exact .inl rfl | exact .inr rfl | assumption) :
    SS X T W (.Assign [.Name x pos'] a pos) (sSet i f) := PS.weak (ps_set hN hi hx he hs hf) (set_reads rfl)
theorem ss_setO {i : Nat} {x : Str} {pos' : Pos} (hN : X.N.Nodup) (he : SE X T W a f) (hi : X.N[i]? = some x := by rfl) (hx : Loc X.env.scope x := by first | exact Or.inl rfl | exact Or.inr rfl) (hs : swapsWith a (some (.Name x pos')) pos.line X.env = pure false := by rfl) (hf : X.fn x = true ∨ X.env.scope.names.lookup x = some .local := by first | exact .inl rfl | exact .inr rfl | assumption) :
    SS X T W (.Assign [.Name x pos'] a pos) (sSetO i f) := PS.weak (ps_set hN hi hx he hs hf) (setO_reads rfl)

def SG (X : Cx) (T : Tb) (tg : Expr) (js : List Nat) (h : D → Env' → Option Env') : Prop :=
  PG X tg (fun v σ H Q => ∃ G B Z env d e, EOk T G B Z H σ env ∧ Rep T Z v d ∧ h d env = some e ∧ ∀ σ', (∀ j, j ∉ js → σ'[j]? = σ[j]?) → σ'.length = σ.length → EOk T G B Z H σ' e → Q σ' H)
def gN (i : Nat) : D → Env' → Option Env' := fun d e => if canSet e i then some (e.set i (.val d)) else none
theorem PG.weak {tg : Expr} {t t' : TG} (h : PG X tg t) (w : ∀ v σ H Q, t' v σ H Q → t v σ H Q) : PG X tg t' := ⟨fun pins s σ H v u Q I r q => h.run pins s σ H v u Q I r (w _ _ _ _ q)⟩
theorem sg_n {i : Nat} {x : Str} (hN : X.N.Nodup) (hi : X.N[i]? = some x := by rfl) (hx : Loc X.env.scope x := by first | exact Or.inl rfl | exact Or.inr rfl) (hf : X.fn x = true ∨ X.env.scope.names.lookup x = some .local := by first | exact .inl rfl | exact .inr rfl | assumption) : SG X T (.Name x pos) [i] (gN i) := by
  refine PG.weak (pg_name hN hi hx hf) fun v σ H Q ⟨G, B, Z, env, d, e, E, r, h, q⟩ => ?_
  unfold gN at h
  split at h
  · rename_i hc
    cases h
    refine q _ (fun j hj => ?_) (by rw [List.length_set]) (E.store (r := .d d) hc r)
    rw [List.getElem?_set_ne fun z => hj (by rw [z]; simp)]
  · cases h
def SGs (X : Cx) (T : Tb) (tgs : List Expr) (js : List Nat) (h : List D → Env' → Option Env') : Prop :=
  PGs X tgs (fun vs σ H Q => ∃ G B Z env ds e, EOk T G B Z H σ env ∧ Reps T Z vs ds ∧ h ds env = some e ∧ ∀ σ', (∀ j, j ∉ js → σ'[j]? = σ[j]?) → σ'.length = σ.length → EOk T G B Z H σ' e → Q σ' H)
theorem PGs.weak {tg : List Expr} {t t' : TGs} (h : PGs X tg t) (w : ∀ v σ H Q, t' v σ H Q → t v σ H Q) : PGs X tg t' := ⟨fun pins s σ H v u Q I r q => h.run pins s σ H v u Q I r (w _ _ _ _ q)⟩
def g0 : List D → Env' → Option Env' := fun ds e => match ds with | [] => some e | _ => none
def gC (h : D → Env' → Option Env') (k : List D → Env' → Option Env') : List D → Env' → Option Env' := fun ds e => match ds with | d :: r => (h d e).bind (k r) | [] => none
theorem sgs_0 : SGs X T [] [] g0 := by
  refine PGs.weak pgs_nil fun vs σ H Q ⟨G, B, Z, env, ds, e, E, r, h, q⟩ => ?_
  cases r with
  | nil =>
    cases h
    exact ⟨rfl, q σ (fun _ _ => rfl) rfl E⟩
  | cons _ _ => cases h
theorem sgs_c {e : Expr} {es : List Expr} {js ks : List Nat} {h : D → Env' → Option Env'} {k : List D → Env' → Option Env'} (h1 : SG X T e js h) (h2 : SGs X T es ks k)
    (hs : (assignEach (e :: es) X.env).map (·.2) = assign e X.env :: (assignEach es X.env).map (·.2) := by rfl) : SGs X T (e :: es) (js ++ ks) (gC h k) := by
  refine PGs.weak (pgs_cons h1 h2 hs) fun vs σ H Q ⟨G, B, Z, env, ds, e, E, r, hh, q⟩ => ?_
  cases r with
  | nil => cases hh
  | @cons v d vs ds r1 rs =>
    have hh' : (h d env).bind (k ds) = some e := hh
    cases he : h d env with
    | none => rw [he] at hh'; cases hh'
    | some e1 =>
      rw [he] at hh'
      refine ⟨_, _, rfl, G, B, Z, env, d, e1, E, r1, he, fun σ1 n1 l1 E1 => ?_⟩
      refine ⟨G, B, Z, e1, ds, e, E1, rs, hh', fun σ2 n2 l2 E2 => q σ2 (fun j hj => ?_) (l2.trans l1) E2⟩
      rw [List.mem_append, not_or] at hj
      rw [n2 j hj.2, n1 j hj.1]
def gT (n : Nat) (k : List D → Env' → Option Env') : D → Env' → Option Env' := fun d e => match d with | .tup ds => if ds.length = n then k ds e else none | _ => none
theorem sg_t {es : List Expr} {k0 : Nat} {js : List Nat} {k : List D → Env' → Option Env'} {n : Nat} (hT : X.K = T.K) (hc : X.calm = true) (h : SGs X T es js k)
    (hn : (assignEach es X.env).length = n := by rfl) (hst : (assignEach es X.env).findIdx? (·.1) = none := by rfl) : SG X T (.Tuple es k0 pos) js (gT n k) := by
  refine PG.weak (pg_tup hc h hn hst) fun v σ H Q ⟨G, B, Z, env, d, e, E, r, hh, q⟩ => ?_
  cases r with
  | @tup a vs ds hq rs =>
    unfold gT at hh
    dsimp only at hh
    split at hh
    · rename_i hl
      exact ⟨a, vs, rfl, by rw [hT]; exact sqt_mono E.sub hq, by rw [rs.length]; exact hl, G, B, Z, env, ds, e, E, rs, hh, q⟩
    · cases hh
  | _ => cases hh
def sAsg (f : Env' → R) (h : D → Env' → Option Env') : Env' → RS := fun env => (f env).bindS fun d e => match h d e with | some e' => .nx e' | none => .no
theorem ss_asg {tg : Expr} {js : List Nat} {h : D → Env' → Option Env'} (he : SE X T W a f) (hg : SG X T tg js h) (hs : swapsWithSole [tg] a pos.line X.env = pure false := by rfl) (hw : swappedStores [tg] a X.env = pure none := by rfl)
    (h1 : (assignEach [tg] X.env).map (·.2) = [assign tg X.env] := by rfl) : SS X T W (.Assign [tg] a pos) (sAsg f h) := by
  refine PS.weak (ps_asg he hg hs hw h1) fun K σ H ⟨G, B, Z, env, E, q⟩ => ?_
  refine useS E q fun v H1 Z1 e d s E1 r q1 => ?_
  cases hh : h d e with
  | none => rw [hh] at q1; exact q1.elim
  | some e' =>
    rw [hh] at q1
    exact ⟨G, B, Z1, e, d, e', E1, r, hh, fun σ' _ _ E' => q1 σ' H1 Z1 (Same.refl _) E'⟩

inductive RI where
  | ok (ds : List D) (e : Env') | ex (x : Ex) (e : Env') | no
def PRI (T : Tb) (W : WX) (G : Gd) (B : List (Nat × Addr)) (Z : Hp) (σ : St) (Q : List D → Hp → Hp → Env' → Prop) : RI → Prop
  | .ok ds e => ∀ H' Z', Same Z Z' → EOk T G B Z' H' σ e → Q ds H' Z' e
  | .ex x e => ∀ cls d H' Z', Same Z Z' → EOk T G B Z' H' σ e → XRep T Z' H' cls d x → W cls d σ H'
  | .no => False
structure Walk (T : Tb) (Z : Hp) (J : It) (ds : List D) : Prop where
  go : ∀ (i : Nat) (d : D) (Z' H : Hp), ds[i]? = some d → Same Z Z' → Same Z' H → J.go i H ∧ ∀ x H', J.yld i H x H' → ∃ Z2, Same Z' Z2 ∧ Rep T Z2 x d ∧ ((H' = H ∧ Z2 = Z') ∨ ∃ p o, H p = none ∧ H' = upd H p o ∧ Z2 = upd Z' p o)
  stop : ∀ (Z' H : Hp), Same Z Z' → Same Z' H → J.stop ds.length H
def tXI (T : Tb) (W : WX) (f : Env' → RI) : TI := fun σ H R => ∃ G B Z env, EOk T G B Z H σ env ∧ PRI T W G B Z σ (fun ds H' Z' e => ∀ J, Walk T Z' J ds → R J H') (f env)
def SI (X : Cx) (T : Tb) (W : WX) (tg it : Expr) (f : Env' → RI) : Prop := PI X tg it (tXI T W f)
theorem PI.weak {tg it : Expr} {t t' : TI} (h : PI X tg it t) (w : ∀ σ H R, t' σ H R → t σ H R) : PI X tg it t' := ⟨fun pins s σ H R I q => h.run pins s σ H R I (w _ _ _ q)⟩
theorem EOk.yield {G : Gd} {Z H Z2 H2 : Hp} {B : List (Nat × Addr)} {σ : St} {env : Env'} (E : EOk T G B Z H σ env) (h : (H2 = H ∧ Z2 = Z) ∨ ∃ p o, H p = none ∧ H2 = upd H p o ∧ Z2 = upd Z p o) : EOk T G B Z2 H2 σ env := by
  rcases h with ⟨rfl, rfl⟩ | ⟨p, o, hp, rfl, rfl⟩
  · exact E
  · exact (E.new hp).fix upd_same (E.nown hp) (E.znone hp) (E.gnone hp)
def forL (h : D → Env' → Option Env') (t : Env' → RS) : List D → Env' → RS
  | [], e => .nx e
  | d :: ds, e => match h d e with
    | none => .no
    | some e1 => match t e1 with
      | .nx e2 => forL h t ds e2
      | .ct e2 => forL h t ds e2
      | .bk e2 => .nx e2
      | .rt r e2 => .rt r e2
      | .ex x e2 => .ex x e2
      | .no => .no
def sFor (f : Env' → RI) (h : D → Env' → Option Env') (t : Env' → RS) : Env' → RS := fun env => match f env with
  | .ok ds e => forL h t ds e
  | .ex x e => .ex x e
  | .no => .no
theorem ss_for {tg it : Expr} {body : List Stmt} {fi : Env' → RI} {js : List Nat} {h : D → Env' → Option Env'} (hp : PassesOwn (model X.prog X.w) X.A X.env X.xe) (hc : X.calm = true) (hi : SI X T W tg it fi) (hg : SG X T tg js h) (hb : SSs X T W body t)
    (hs : ∀ x, foldedSetIterable it X.env x = pure x := by intro _; rfl) : SS X T W (.For tg it body [] pos) (sFor fi h t) := by
  refine PS.weak (ps_for hp hc hi hg hb hs) fun K σ H ⟨G, B, Z, env, E, q⟩ => ⟨G, B, Z, env, E, ?_⟩
  unfold sFor at q
  cases hf : fi env with
  | no => rw [hf] at q; exact q.elim
  | ex x e => rw [hf] at q; exact fun c d H' Z' s E r => q c d _ H' Z' s E r
  | ok ds e =>
    rw [hf] at q
    intro H1 Z1 s1 E1 J w
    refine ⟨fun i m σ H => m = ds.length - i ∧ i ≤ ds.length ∧ ∃ Z2 e2, Same Z1 Z2 ∧ EOk T G B Z2 H σ e2 ∧ PRS T W G B Z2 K (forL h t (ds.drop i) e2), ⟨_, rfl, Nat.zero_le _, Z1, e, Same.refl _, E1, PRS.mono s1 q⟩, ?_⟩
    rintro i m σ2 H2 ⟨rfl, hle, Z2, e2, s2, E2, q2⟩
    by_cases hlt : i < ds.length
    · have hd : ds[i]? = some ds[i] := List.getElem?_eq_getElem hlt
      obtain ⟨go, yld⟩ := w.go i ds[i] Z2 H2 hd s2 E2.sub
      have hdrop : ds.drop i = ds[i] :: ds.drop (i + 1) := List.drop_eq_getElem_cons hlt
      rw [hdrop] at q2
      unfold forL at q2
      refine .inr ⟨go, fun σ' H' => ∃ Z3 e3, Same Z1 Z3 ∧ EOk T G B Z3 H' σ' e3 ∧ PRS T W G B Z3 K (forL h t (ds.drop (i + 1)) e3), fun σ' H' ⟨Z3, e3, s3, E3, q3⟩ => ⟨ds.length - (i + 1), by omega, rfl, hlt, Z3, e3, s3, E3, q3⟩, fun x H' y => ?_⟩
      obtain ⟨Z3, s3, r3, hy⟩ := yld x H' y
      have E3 := E2.yield hy
      cases hh : h ds[i] e2 with
      | none => rw [hh] at q2; exact q2.elim
      | some e3 =>
        rw [hh] at q2
        refine ⟨G, B, Z3, e2, ds[i], e3, E3, r3, hh, fun σ3 _ _ E4 => ⟨G, B, Z3, e3, E4, ?_⟩⟩
        dsimp only at q2
        cases ht : t e3 with
        | nx e4 => rw [ht] at q2; exact fun σ' H' Z4 s4 E5 => ⟨Z4, e4, (s2.trans s3).trans s4, E5, PRS.mono (s3.trans s4) (r := forL h t (ds.drop (i + 1)) e4) q2⟩
        | ct e4 => rw [ht] at q2; exact fun σ' H' Z4 s4 E5 => ⟨Z4, e4, (s2.trans s3).trans s4, E5, PRS.mono (s3.trans s4) (r := forL h t (ds.drop (i + 1)) e4) q2⟩
        | bk e4 => rw [ht] at q2; exact fun σ' H' Z4 s4 E5 => q2 σ' H' Z4 (s3.trans s4) E5
        | rt r e4 => rw [ht] at q2; exact fun v σ' H' Z4 s4 E5 r5 => q2 v σ' H' Z4 (s3.trans s4) E5 r5
        | ex x e4 => rw [ht] at q2; exact fun c d σ' H' Z4 s4 E5 r5 => q2 c d σ' H' Z4 (s3.trans s4) E5 r5
        | no => rw [ht] at q2; exact q2.elim
    · have e0 : i = ds.length := by omega
      subst e0
      rw [List.drop_length] at q2
      exact .inl ⟨w.stop Z2 H2 s2 E2.sub, q2 σ2 H2 Z2 (Same.refl _) E2⟩
def itemsD : D → Option (List D)
  | .tup ds => some ds
  | .lst ds => some ds
  | .ro ds => some ds
  | .str l => some (l.map fun c => .str [c])
  | _ => none
def iD (f : Env' → R) : Env' → RI := fun env => match f env with
  | .ok r e => (match r with
    | .d d => (match itemsD d with | some ds => .ok ds e | none => .no)
    | .o (.l xs) => .ok xs e
    | .o (.s _ _) => .no)
  | .ex x e => .ex x e
  | .no => .no
theorem walk_list {Z : Hp} {p : Addr} {vs : List V} {ds : List D} (hT : X.K = T.K) (h : SqL T.K Z p vs) (r : Reps T Z vs ds) : Walk T Z (Itl X.K p) ds where
  go := fun i d Z' H e s s' => by
    obtain ⟨v, e1, r1⟩ := r.get e
    have q : SqL X.K H p vs := by rw [hT]; exact (s.trans s').seq h
    refine ⟨⟨vs, v, q, e1⟩, fun x H' y => ?_⟩
    obtain ⟨rfl, y⟩ := y
    have := y vs q
    rw [e1] at this
    cases this
    exact ⟨Z', Same.refl _, r1.mono s, .inl ⟨rfl, rfl⟩⟩
  stop := fun Z' H s s' => ⟨vs, by rw [hT]; exact (s.trans s').seq h, by rw [r.length]; exact Nat.le_refl _⟩
end
end L2.S

set_option Elab.async false
set_option linter.all false
set_option maxRecDepth 100000
set_option maxHeartbeats 4000000
namespace L2.S
open PySem PySem.Spec PyProof.Rows
section
variable {X : Cx} {T : Tb} {W : WX} {a b c tg : Expr} {f g : Env' → R} {pos : Pos} {st : Stmt} {sts rest : List Stmt} {t u : Env' → RS} {tt : Env' → RT} {fa : Env' → RA}
section
variable {pins : List (Addr × Obj)} {σ : St} {H : Hp} {s : Shared} {R : It → Hp → Prop} {E : Value → Shared → Prop}
theorem it_list {p : Addr} {xs : List V} (I : Inv X pins σ H s) (h : SqL X.K H p xs) (q : R (Itl X.K p) H) : wpAny (model X.prog X.w) X.A (pyIter (.ref p)) (PIE X pins σ tg R) E s := by
  obtain ⟨its, rv, pl, hz⟩ := I.list h
  exact wpAny_pyIter_list pl.isList (pi_one (tk := s.toks) I _ (turn_list p _) ⟨_, Heap.get?_push_size _ rfl, rfl, rfl⟩ q)
theorem it_tup {p : Addr} {xs : List V} (I : Inv X pins σ H s) (h : SqT X.K H p xs) (q : R (Itt X.K p) H) : wpAny (model X.prog X.w) X.A (pyIter (.ref p)) (PIE X pins σ tg R) E s := by
  obtain ⟨its, rv, pl, hz⟩ := I.tuple h
  exact wpAny_pyIter_tuple (show s.heap.IsTuple p its.toArray from pl) (pi_one (tk := s.toks) I _ (turn_tuple p _) ⟨_, Heap.get?_push_size _ rfl, rfl, rfl⟩ q)
theorem it_str {x : Str} {t : Tok} (I : Inv X pins σ H s) (q : R (Its x) H) : wpAny (model X.prog X.w) X.A (pyIter (.str x t)) (PIE X pins σ tg R) E s := by
  cases ha : x.cps.all (· < 128)
  · exact wpAny_pyIter_wide ha (pi_one (tk := s.toks) I _ (turn_str _ x t "str_iterator" (.inr rfl)) ⟨_, Heap.get?_push_size _ rfl, rfl, rfl⟩ q)
  · exact wpAny_pyIter_ascii ha (pi_one (tk := s.toks) I _ (turn_str _ x t "str_ascii_iterator" (.inl rfl)) ⟨_, Heap.get?_push_size _ rfl, rfl, rfl⟩ q)
end
theorem walk_tup {Z : Hp} {p : Addr} {vs : List V} {ds : List D} (hT : X.K = T.K) (h : SqT T.K Z p vs) (r : Reps T Z vs ds) : Walk T Z (Itt X.K p) ds where
  go := fun i d Z' H e s s' => by
    obtain ⟨v, e1, r1⟩ := r.get e
    have q : SqT X.K H p vs := by rw [hT]; exact sqt_mono (s.trans s') h
    refine ⟨⟨vs, v, q, e1⟩, fun x H' y => ?_⟩
    obtain ⟨rfl, y⟩ := y
    have := y vs q
    rw [e1] at this
    cases this
    exact ⟨Z', Same.refl _, r1.mono s, .inl ⟨rfl, rfl⟩⟩
  stop := fun Z' H s s' => ⟨vs, by rw [hT]; exact sqt_mono (s.trans s') h, by rw [r.length]; exact Nat.le_refl _⟩
theorem walk_str {Z : Hp} {l : List Nat} : Walk T Z (Its ⟨l.toArray⟩) (l.map fun c => .str [c]) where
  go := fun i d Z' H e s s' => by
    rw [List.getElem?_map] at e
    cases q : l[i]? with
    | none => rw [q] at e; cases e
    | some ch =>
      rw [q] at e
      cases e
      have hi : i < l.length := (List.getElem?_eq_some_iff.mp q).1
      refine ⟨by show i < (⟨l.toArray⟩ : Str).cps.size; simpa using hi, fun x H' y => ?_⟩
      obtain ⟨rfl, k, hk, rfl⟩ := y
      have hk' : l[i]? = some k := by simpa using hk
      rw [q] at hk'
      cases hk'
      exact ⟨Z', Same.refl _, .str [ch], .inl ⟨rfl, rfl⟩⟩
  stop := fun Z' H s s' => by show (⟨l.toArray⟩ : Str).cps.size ≤ _; simp
theorem si_d (hT : X.K = T.K) (ha : SE X T W a f) : SI X T W tg a (iD f) := by
  refine ⟨fun pins s σ H Rr I h => ?_⟩
  obtain ⟨G, B, Z, env, E, q⟩ := h
  have key : tX T W f σ H fun v H1 => ∃ d Z1 ds, itemsD d = some ds ∧ Same Z1 H1 ∧ Rep T Z1 v d ∧ ∀ J, Walk T Z1 J ds → Rr J H1 := by
    refine use (Same.refl _) E (fun r e hf v H' Z' s1 E' r' => ?_) (fun x e hf => ?_) (fun hf => ?_)
    · unfold iD at q
      rw [hf] at q
      cases r with
      | d d =>
        dsimp only at q
        cases hi : itemsD d with
        | none => rw [hi] at q; exact q.elim
        | some ds =>
          rw [hi] at q
          exact ⟨d, Z', ds, hi, E'.sub, r', q H' Z' s1 E'⟩
      | o o =>
        cases o with
        | s c xs => exact q.elim
        | l xs =>
          obtain ⟨Z2, s2, E2, r2⟩ := frozen E' r'
          exact ⟨.lst xs, Z2, xs, rfl, E2.sub, r2, q H' Z2 (s1.trans s2) E2⟩
    · unfold iD at q
      rw [hf] at q
      exact q
    · unfold iD at q
      rw [hf] at q
      exact q.elim
  refine thn (ha.run pins s σ H _ I key) fun v s1 ⟨x, H1, I1, r1, d, Z1, ds, hd, hs, rr, k⟩ => ?_
  cases rr with
  | tup h r =>
    cases hd
    cases r1
    exact it_tup I1 (by rw [hT]; exact sqt_mono hs h) (k _ (walk_tup hT h r))
  | lst h r =>
    cases hd
    cases r1
    exact it_list I1 (SqL.of (hs _ _ h)) (k _ (walk_list hT (SqL.of h) r))
  | ro h r =>
    cases hd
    cases r1
    exact it_list I1 (by rw [hT]; exact hs.seq h) (k _ (walk_list hT h r))
  | str l =>
    cases hd
    obtain ⟨t, rfl⟩ := r1
    exact it_str I1 (k _ walk_str)
  | _ => cases hd
def rngD (lo hi : Int) : List D := (List.range (hi - lo).toNat).map fun (i : Nat) => .int (lo + i)
theorem walk_rng {Z : Hp} {lo : Int} {n : Nat} : Walk T Z (Itr lo n) ((List.range n).map fun (i : Nat) => .int (lo + i)) where
  go := fun i d Z' H e s s' => by
    rw [List.getElem?_map] at e
    cases q : (List.range n)[i]? with
    | none => rw [q] at e; cases e
    | some j =>
      rw [q] at e
      cases e
      obtain ⟨hi, ej⟩ := List.getElem?_eq_some_iff.mp q
      rw [List.length_range] at hi
      rw [List.getElem_range] at ej
      subst ej
      refine ⟨hi, fun x H' y => ?_⟩
      obtain ⟨rfl, rfl⟩ := y
      exact ⟨Z', Same.refl _, .int _, .inl ⟨rfl, rfl⟩⟩
  stop := fun Z' H s s' => by show n ≤ _; simp
@[irreducible] def smI (i : Int) : Bool := decide (-(2 ^ 62) ≤ i) && decide (i < 2 ^ 62)
theorem smI_inv {i : Int} (h : smI i = true) : -(2 ^ 62) ≤ i ∧ i < 2 ^ 62 := by
  unfold smI at h
  rw [Bool.and_eq_true] at h
  exact ⟨of_decide_eq_true h.1, of_decide_eq_true h.2⟩
def RA.bindI (r : RA) (k : List AV → Env' → RI) : RI :=
  match r with
  | .ok as e => k as e
  | .ex x e => .ex x e
  | .no => .no
theorem useAI {G : Gd} {Z H : Hp} {B : List (Nat × Addr)} {σ : St} {env : Env'} {P : List V → Hp → Prop} {Q : List D → Hp → Hp → Env' → Prop} {k : List AV → Env' → RI} (E : EOk T G B Z H σ env) (h : PRI T W G B Z σ Q ((fa env).bindI k))
    (go : ∀ vs H1 Z1 e as, Same Z Z1 → EOk T G B Z1 H1 σ e → AVOk T Z1 σ vs as → (∀ ds e', k as e = .ok ds e' → ∀ H' Z', Same Z1 Z' → EOk T G B Z' H' σ e' → Q ds H' Z' e') → k as e ≠ .no → (∀ x e', k as e = .ex x e' → ∀ cls d H' Z', Same Z1 Z' → EOk T G B Z' H' σ e' → XRep T Z' H' cls d x → W cls d σ H') → P vs H1) : tXA T W fa σ H P := by
  refine ⟨G, B, Z, env, E, ?_⟩
  cases q : fa env with
  | ok as e =>
    rw [q] at h
    intro vs H' Z' s E' r
    refine go vs H' Z' e as s E' r (fun ds e' hk H2 Z2 s2 E2 => ?_) (fun hk => ?_) (fun x e' hk c d H2 Z2 s2 E2 r2 => ?_)
    · have h' : PRI T W G B Z σ Q (k as e) := h
      rw [hk] at h'
      exact h' H2 Z2 (s.trans s2) E2
    · have h' : PRI T W G B Z σ Q (k as e) := h
      rw [hk] at h'
      exact h'
    · have h' : PRI T W G B Z σ Q (k as e) := h
      rw [hk] at h'
      exact h' c d H2 Z2 (s.trans s2) E2 r2
  | ex x e => rw [q] at h; exact h
  | no => rw [q] at h; exact h.elim
def avI : List AV → Option (List Int)
  | [] => some []
  | .d (.int i) :: as => (avI as).map (i :: ·)
  | _ :: _ => none
theorem AVOk.ints {Z : Hp} {σ : St} : ∀ {vs : List V} {as : List AV} {is : List Int}, AVOk T Z σ vs as → avI as = some is → vs = is.map V.int
  | [], [], _, _, e => by cases e; rfl
  | v :: vs, .d (.int i) :: as, is, h, e => by
    have e' : (avI as).map (i :: ·) = some is := e
    cases q : avI as with
    | none => rw [q] at e'; cases e'
    | some r =>
      rw [q] at e'
      cases e'
      obtain ⟨h1, h2⟩ := h
      cases h1
      rw [AVOk.ints h2 q]
      rfl
  | _ :: _, .d .non :: _, _, _, e => by cases e
  | _ :: _, .d (.bl _) :: _, _, _, e => by cases e
  | _ :: _, .d (.str _) :: _, _, _, e => by cases e
  | _ :: _, .d (.tup _) :: _, _, _, e => by cases e
  | _ :: _, .d (.lst _) :: _, _, _, e => by cases e
  | _ :: _, .d (.ro _) :: _, _, _, e => by cases e
  | _ :: _, .d (.obj _ _) :: _, _, _, e => by cases e
  | _ :: _, .d (.fn _) :: _, _, _, e => by cases e
  | _ :: _, .d (.ty _) :: _, _, _, e => by cases e
  | _ :: _, .d (.cls _) :: _, _, _, e => by cases e
  | _ :: _, .s _ :: _, _, _, e => by cases e
  | [], .d _ :: _, _, h, _ => h.elim
  | [], .s _ :: _, _, h, _ => h.elim
  | _ :: _, [], _, h, _ => h.elim
def iR1 (fa : Env' → RA) : Env' → RI := fun env => (fa env).bindI fun as e => match avI as with
  | some [j] => if smI j then .ok (rngD 0 j) e else .no
  | _ => .no
def iR2 (fa : Env' → RA) : Env' → RI := fun env => (fa env).bindI fun as e => match avI as with
  | some [i, j] => if smI i && smI j then .ok (rngD i j) e else .no
  | _ => .no
def dwnD (lo hi : Int) : List D := (List.range (lo - hi).toNat).map fun (i : Nat) => .int (lo - i)
def iR3 (fa : Env' → RA) : Env' → RI := fun env => (fa env).bindI fun as e => match avI as with
  | some [i, j, -1] => if smI i && smI j then .ok (dwnD i j) e else .no
  | _ => .no
theorem si_r1 {p : Pos} (hg : Gl X "range") (hm : X.mg "range" = none) (ha : SA X T W [a] fa) (hs : starEach [a] X.env = [(false, eval a X.env)] := by rfl) : SI X T W tg (.Call (.Name "range" p) [a] [] pos) (iR1 fa) := by
  refine PI.weak (pi_range1 hg hm ha hs) fun σ H Rr ⟨G, B, Z, env, E, q⟩ => ?_
  refine useAI E q fun vs H1 Z1 e as s E1 r h1 h2 h3 => ?_
  split at h2
  · rename_i j hj
    have hv := r.ints hj
    by_cases hs : smI j = true
    · rw [hj] at h1
      simp only [hs, if_true] at h1
      obtain ⟨l1, l2⟩ := smI_inv hs
      refine ⟨j, hv, l1, l2, h1 _ _ rfl H1 Z1 (Same.refl _) E1 _ ?_⟩
      unfold rngD
      rw [Int.sub_zero]
      exact walk_rng
    · exact (h2 (if_neg hs)).elim
  · exact (h2 rfl).elim
theorem si_r2 {p : Pos} (hg : Gl X "range") (hm : X.mg "range" = none) (ha : SA X T W [a, b] fa) (hs : starEach [a, b] X.env = [(false, eval a X.env), (false, eval b X.env)] := by rfl) (hs2 : starEach [b] X.env = [(false, eval b X.env)] := by rfl) :
    SI X T W tg (.Call (.Name "range" p) [a, b] [] pos) (iR2 fa) := by
  refine PI.weak (pi_range2 hg hm ha hs hs2) fun σ H Rr ⟨G, B, Z, env, E, q⟩ => ?_
  refine useAI E q fun vs H1 Z1 e as s E1 r h1 h2 h3 => ?_
  split at h2
  · rename_i i j hj
    have hv := r.ints hj
    by_cases hs : (smI i && smI j) = true
    · rw [hj] at h1
      simp only [hs, if_true] at h1
      rw [Bool.and_eq_true] at hs
      obtain ⟨l1, l2⟩ := smI_inv hs.1
      obtain ⟨l3, l4⟩ := smI_inv hs.2
      exact ⟨i, j, hv, ⟨l1, l2, l3, l4⟩, h1 _ _ rfl H1 Z1 (Same.refl _) E1 _ walk_rng⟩
    · exact (h2 (if_neg hs)).elim
  · exact (h2 rfl).elim
theorem walk_dwn {Z : Hp} {lo : Int} {n : Nat} : Walk T Z (Itc lo (-1) n) ((List.range n).map fun (i : Nat) => .int (lo - i)) where
  go := fun i d Z' H e s s' => by
    rw [List.getElem?_map] at e
    cases q : (List.range n)[i]? with
    | none => rw [q] at e; cases e
    | some j =>
      rw [q] at e
      cases e
      obtain ⟨hi, ej⟩ := List.getElem?_eq_some_iff.mp q
      rw [List.length_range] at hi
      rw [List.getElem_range] at ej
      subst ej
      refine ⟨hi, fun x H' y => ?_⟩
      obtain ⟨rfl, rfl⟩ := y
      refine ⟨Z', Same.refl _, ?_, .inl ⟨rfl, rfl⟩⟩
      have e : lo + (i : Int) * -1 = lo - i := by omega
      rw [e]
      exact .int _
  stop := fun Z' H s s' => by show n ≤ _; simp
theorem si_r3 {p : Pos} (hg : Gl X "range") (hm : X.mg "range" = none) (ha : SA X T W [a, b, c] fa) (hs : starEach [a, b, c] X.env = (false, eval a X.env) :: starEach [b, c] X.env := by rfl) (hs2 : (backTo pos (starEach [b, c] X.env)).any (·.1) = false := by rfl) :
    SI X T W tg (.Call (.Name "range" p) [a, b, c] [] pos) (iR3 fa) := by
  refine PI.weak (pi_range3 hg hm ha hs hs2) fun σ H Rr ⟨G, B, Z, env, E, q⟩ => ?_
  refine useAI E q fun vs H1 Z1 e as s E1 r h1 h2 h3 => ?_
  split at h2
  · rename_i i j hj
    have hv := r.ints hj
    by_cases hs : (smI i && smI j) = true
    · rw [hj] at h1
      simp only [hs, if_true] at h1
      rw [Bool.and_eq_true] at hs
      obtain ⟨l1, l2⟩ := smI_inv hs.1
      obtain ⟨l3, l4⟩ := smI_inv hs.2
      exact ⟨i, j, -1, (i - j).toNat, hv, RgC.neg l1 l2 l3 l4, h1 _ _ rfl H1 Z1 (Same.refl _) E1 _ walk_dwn⟩
    · exact (h2 (if_neg hs)).elim
  · exact (h2 rfl).elim

def whL (c : Env' → RT) (t : Env' → RS) : Nat → Env' → RS
  | 0, _ => .no
  | n + 1, e => match c e with
    | .ok true e1 => (match t e1 with
      | .nx e2 => whL c t n e2
      | .ct e2 => whL c t n e2
      | .bk e2 => .nx e2
      | .rt r e2 => .rt r e2
      | .ex x e2 => .ex x e2
      | .no => .no)
    | .ok false e1 => .nx e1
    | .ex x e1 => .ex x e1
    | .no => .no
def sWh (n : Env' → Nat) (c : Env' → RT) (t : Env' → RS) : Env' → RS := fun e => whL c t (n e) e
theorem ss_while {body : List Stmt} (n : Env' → Nat) (hp : PassesOwn (model X.prog X.w) X.A X.env X.xe) (hc : ST X T W c tt) (hb : SSs X T W body t) : SS X T W (.While c body [] pos) (sWh n tt t) := by
  refine PS.weak (ps_while hp hc hb) fun K σ H ⟨G, B, Z, env, E, q⟩ => ?_
  refine ⟨fun m σ H => ∃ Z2 e2, Same Z Z2 ∧ EOk T G B Z2 H σ e2 ∧ PRS T W G B Z2 K (whL tt t m e2), ⟨n env, Z, env, Same.refl _, E, q⟩, ?_⟩
  rintro m σ2 H2 ⟨Z2, e2, s2, E2, q2⟩
  cases m with
  | zero => exact q2.elim
  | succ m =>
    unfold whL at q2
    refine ⟨G, B, Z2, e2, E2, ?_⟩
    cases hc : tt e2 with
    | no => rw [hc] at q2; exact q2.elim
    | ex x e => rw [hc] at q2; exact fun c d H' Z' s E r => q2 c d _ H' Z' s E r
    | ok b e =>
      rw [hc] at q2
      cases b with
      | false =>
        intro H' Z' s E'
        show if false = true then _ else _
        rw [if_neg Bool.false_ne_true]
        exact q2 σ2 H' Z' s E'
      | true =>
        dsimp only at q2
        intro H3 Z3 s3 E3
        show if true = true then _ else _
        rw [if_pos rfl]
        refine ⟨fun σ' H' => ∃ Z4 e4, Same Z Z4 ∧ EOk T G B Z4 H' σ' e4 ∧ PRS T W G B Z4 K (whL tt t m e4), fun σ' H' ⟨Z4, e4, s4, E4, q4⟩ => ⟨m, Nat.lt_succ_self m, Z4, e4, s4, E4, q4⟩, G, B, Z3, e, E3, ?_⟩
        cases ht : t e with
        | nx e4 => rw [ht] at q2; exact fun σ' H' Z4 s4 E5 => ⟨Z4, e4, (s2.trans s3).trans s4, E5, PRS.mono (s3.trans s4) (r := whL tt t m e4) q2⟩
        | ct e4 => rw [ht] at q2; exact fun σ' H' Z4 s4 E5 => ⟨Z4, e4, (s2.trans s3).trans s4, E5, PRS.mono (s3.trans s4) (r := whL tt t m e4) q2⟩
        | bk e4 => rw [ht] at q2; exact fun σ' H' Z4 s4 E5 => q2 σ' H' Z4 (s3.trans s4) E5
        | rt r e4 => rw [ht] at q2; exact fun v σ' H' Z4 s4 E5 r5 => q2 v σ' H' Z4 (s3.trans s4) E5 r5
        | ex x e4 => rw [ht] at q2; exact fun c d σ' H' Z4 s4 E5 r5 => q2 c d σ' H' Z4 (s3.trans s4) E5 r5
        | no => rw [ht] at q2; exact q2.elim
end
end L2.S

set_option Elab.async false
set_option linter.all false
set_option maxRecDepth 100000
set_option maxHeartbeats 4000000
namespace L2.S
open PySem PySem.Spec PyProof.Rows
def isOwn : SV → Bool | .own _ _ => true | _ => false
def canWipe (e : Env') (vs : List Nat) : Bool := vs.all fun v => match e[v]? with | some w => !isOwn w | none => false
def wipeE (e : Env') : List Nat → Env'
  | [] => e
  | v :: vs => (wipeE e vs).set v .un
def backE (e0 e : Env') : List Nat → Env'
  | [] => e
  | v :: vs => (backE e0 e vs).set v (e0.getD v .un)
theorem wipeE_length (e : Env') : ∀ vs, (wipeE e vs).length = e.length
  | [] => rfl
  | v :: vs => by unfold wipeE; rw [List.length_set, wipeE_length e vs]
theorem backE_length (e0 e : Env') : ∀ vs, (backE e0 e vs).length = e.length
  | [] => rfl
  | v :: vs => by unfold backE; rw [List.length_set, backE_length e0 e vs]
theorem wipeE_out {e : Env'} {j : Nat} : ∀ {vs}, j ∉ vs → (wipeE e vs)[j]? = e[j]?
  | [], _ => rfl
  | v :: vs, h => by
    rw [List.mem_cons, not_or] at h
    unfold wipeE
    rw [List.getElem?_set_ne (fun z => h.1 z.symm), wipeE_out h.2]
theorem wipeE_in {e : Env'} {j : Nat} (hj : j < e.length) : ∀ {vs}, j ∈ vs → (wipeE e vs)[j]? = some .un
  | v :: vs, h => by
    unfold wipeE
    by_cases z : v = j
    · subst z
      rw [List.getElem?_set_self (by rw [wipeE_length]; exact hj)]
    · rw [List.getElem?_set_ne z]
      exact wipeE_in hj ((List.mem_cons.mp h).resolve_left fun q => z q.symm)
theorem wipe_none {σ : St} {j : Nat} (hj : j < σ.length) : ∀ {vs}, j ∈ vs → (wipe σ vs)[j]? = some none
  | v :: vs, h => by
    unfold wipe
    by_cases z : v = j
    · subst z
      rw [List.getElem?_set_self (by rw [wipe_length]; exact hj)]
    · rw [List.getElem?_set_ne z]
      exact wipe_none hj ((List.mem_cons.mp h).resolve_left fun q => z q.symm)
theorem wipe_out' {σ : St} {j : Nat} : ∀ {vs : List Nat}, j ∉ vs → (wipe σ vs)[j]? = σ[j]?
  | [], _ => rfl
  | v :: vs, h => by
    rw [List.mem_cons, not_or] at h
    unfold wipe
    rw [List.getElem?_set_ne (fun z => h.1 z.symm), wipe_out' h.2]
theorem backE_out {e0 e : Env'} {j : Nat} : ∀ {vs}, j ∉ vs → (backE e0 e vs)[j]? = e[j]?
  | [], _ => rfl
  | v :: vs, h => by
    rw [List.mem_cons, not_or] at h
    unfold backE
    rw [List.getElem?_set_ne (fun z => h.1 z.symm), backE_out h.2]
theorem backE_in {e0 e : Env'} {j : Nat} (hj : j < e.length) : ∀ {vs}, j ∈ vs → (backE e0 e vs)[j]? = some (e0.getD j .un)
  | v :: vs, h => by
    unfold backE
    by_cases z : v = j
    · subst z
      rw [List.getElem?_set_self (by rw [backE_length]; exact hj)]
    · rw [List.getElem?_set_ne z]
      exact backE_in hj ((List.mem_cons.mp h).resolve_left fun q => z q.symm)
theorem wipe_same {σ τ : St} {vs : List Nat} (hl : σ.length = τ.length) (h : ∀ j, j ∉ vs → σ[j]? = τ[j]?) : wipe σ vs = wipe τ vs := by
  refine List.ext_getElem? fun j => ?_
  by_cases hj : j ∈ vs
  · by_cases hb : j < σ.length
    · rw [wipe_none hb hj, wipe_none (by rw [← hl]; exact hb) hj]
    · rw [List.getElem?_eq_none (by rw [wipe_length]; omega), List.getElem?_eq_none (by rw [wipe_length]; omega)]
  · rw [wipe_out' hj, wipe_out' hj, h j hj]
theorem wipe_wipe (σ : St) (vs : List Nat) : wipe (wipe σ vs) vs = wipe σ vs := wipe_same (by rw [wipe_length]) fun j hj => wipe_out' hj
theorem canWipe_at {e : Env'} {vs : List Nat} (h : canWipe e vs = true) {v : Nat} (hv : v ∈ vs) : v < e.length ∧ ∀ b o, e[v]? ≠ some (.own b o) := by
  have q := List.all_eq_true.mp h v hv
  cases hw : e[v]? with
  | none => rw [hw] at q; cases q
  | some w =>
    rw [hw] at q
    refine ⟨(List.getElem?_eq_some_iff.mp hw).1, fun b o z => ?_⟩
    cases z
    cases q
section
variable {T : Tb} {G : Gd} {Z Z' H H' : Hp} {B : List (Nat × Addr)} {σ : St} {e e0 : Env'} {vs : List Nat}
theorem own_wipe (hl : σ.length = e.length) {j : Nat} {a : Addr} (o : Own (wipe σ vs) (wipeE e vs) j a) : j ∉ vs ∧ Own σ e j a := by
  obtain ⟨⟨b, o, q⟩, q2⟩ := o
  by_cases hj : j ∈ vs
  · by_cases hb : j < e.length
    · rw [wipeE_in hb hj] at q; cases q
    · rw [List.getElem?_eq_none (by rw [wipeE_length]; omega)] at q; cases q
  · rw [wipeE_out hj] at q
    rw [wipe_out' hj] at q2
    exact ⟨hj, ⟨b, o, q⟩, q2⟩
theorem EOk.wipe (E : EOk T G B Z H σ e) (h : canWipe e vs = true) : EOk T G B Z H (wipe σ vs) (wipeE e vs) := by
  refine ⟨by rw [wipe_length, wipeE_length]; exact E.len, E.sub, E.nof, E.keep, fun j d q => ?_, fun j b o q => ?_, fun j b q => ?_, fun j k b n o1 o2 => E.dis j k b n (own_wipe E.len o1).2 (own_wipe E.len o2).2⟩
  · by_cases hj : j ∈ vs
    · rw [wipeE_in (canWipe_at h hj).1 hj] at q; cases q
    · rw [wipeE_out hj] at q
      rw [wipe_out' hj]
      exact E.val j d q
  · by_cases hj : j ∈ vs
    · rw [wipeE_in (canWipe_at h hj).1 hj] at q; cases q
    · rw [wipeE_out hj] at q
      rw [wipe_out' hj]
      exact E.own j b o q
  · obtain ⟨⟨o, q1⟩, q2⟩ := E.bor j b q
    have hj : j ∉ vs := fun hj => (canWipe_at h hj).2 _ _ q1
    exact ⟨⟨o, by rw [wipeE_out hj]; exact q1⟩, by rw [wipe_out' hj]; exact q2⟩
theorem EOk.back (E0 : EOk T G B Z H σ e0) (hw : canWipe e0 vs = true) (E : EOk T G B Z' H' (L2.wipe σ vs) e) (s : Same Z Z') : EOk T G B Z' H' σ (backE e0 e vs) := by
  have hle : e.length = e0.length := by rw [← E.len, wipe_length, E0.len]
  have at0 : ∀ j, j ∈ vs → e0[j]? = some (e0.getD j .un) := fun j hj => by
    have hb := (canWipe_at hw hj).1
    rw [List.getD_eq_getElem?_getD, List.getElem?_eq_getElem hb]
    rfl
  have own' : ∀ j a, Own σ (backE e0 e vs) j a → j ∉ vs ∧ Own (L2.wipe σ vs) e j a := fun j a ⟨⟨b, o, q⟩, q2⟩ => by
    by_cases hj : j ∈ vs
    · rw [backE_in (by rw [hle]; exact (canWipe_at hw hj).1) hj, ← at0 j hj] at q
      exact ((canWipe_at hw hj).2 _ _ q).elim
    · rw [backE_out hj] at q
      exact ⟨hj, ⟨b, o, q⟩, by rw [wipe_out' hj]; exact q2⟩
  refine ⟨by rw [backE_length, hle]; exact E0.len, E.sub, E.nof, E.keep, fun j d q => ?_, fun j b o q => ?_, fun j b q => ?_, fun j k b n o1 o2 => E.dis j k b n (own' j b o1).2 (own' k b o2).2⟩
  · by_cases hj : j ∈ vs
    · rw [backE_in (by rw [hle]; exact (canWipe_at hw hj).1) hj, ← at0 j hj] at q
      obtain ⟨v, q1, q2⟩ := E0.val j d q
      exact ⟨v, q1, q2.mono s⟩
    · rw [backE_out hj] at q
      have := E.val j d q
      rw [wipe_out' hj] at this
      exact this
  · by_cases hj : j ∈ vs
    · rw [backE_in (by rw [hle]; exact (canWipe_at hw hj).1) hj, ← at0 j hj] at q
      exact ((canWipe_at hw hj).2 _ _ q).elim
    · rw [backE_out hj] at q
      have := E.own j b o q
      rw [wipe_out' hj] at this
      exact this
  · obtain ⟨⟨o, q1⟩, q2⟩ := E.bor j b q
    have hj : j ∉ vs := fun hj => by
      rw [wipe_none (by rw [E0.len]; exact (canWipe_at hw hj).1) hj] at q2
      cases q2
    rw [wipe_out' hj] at q2
    exact ⟨⟨o, by rw [backE_out hj]; exact q1⟩, q2⟩
def Gd.hold (G : Gd) (p : Addr) (o : HO) : Gd := ⟨upd G.g p o, fun a => if a = p then none else G.z a⟩
theorem EOk.hold (E : EOk T G B Z H σ e) {p : Addr} {o : HO} (h : H p = some o) (n : ∀ i, ¬ Own σ e i p) (hz : Z p = none) (hg : G.g p = none) : EOk T (G.hold p o) B Z H σ e where
  len := E.len
  sub := E.sub
  nof := fun a h1 h2 => by
    by_cases ha : a = p
    · rw [ha]; exact hz
    · refine E.nof a ?_ ?_
      · have h1 : upd G.g p o a ≠ none := h1
        rw [upd_ne ha] at h1
        exact h1
      · have h2 : (if a = p then none else G.z a) = none := h2
        rw [if_neg ha] at h2
        exact h2
  keep := fun a u q nb => by
    have q : upd G.g p o a = some u := q
    by_cases ha : a = p
    · rw [ha, upd_same] at q
      rw [ha, h]
      exact q
    · rw [upd_ne ha] at q
      exact E.keep a u q nb
  val := E.val
  own := fun i b u q => by
    obtain ⟨a, h', q1, q2, q3, q4, q5⟩ := E.own i b u q
    refine ⟨a, h', q1, q2, q3, q4, q5.imp id fun ⟨z1, z2⟩ => ⟨z1, ?_⟩⟩
    show upd G.g p o a = none
    rw [upd_ne fun z => n i ⟨⟨_, _, q⟩, by rw [← z]; exact q1⟩]
    exact z2
  bor := E.bor
  dis := E.dis
theorem EOk.unhold {p : Addr} {o : HO} (E : EOk T (G.hold p o) B Z H σ e) (hg : G.g p = none) (hb : ∀ i, (i, p) ∉ B) : EOk T G B Z H σ e ∧ H p = some o ∧ (∀ i, ¬ Own σ e i p) ∧ Z p = none := by
  have hp : H p = some o := E.keep p o (by show upd G.g p o p = _; exact upd_same) hb
  refine ⟨⟨E.len, E.sub, fun a h1 h2 => ?_, fun a u q nb => ?_, E.val, fun i b u q => ?_, E.bor, E.dis⟩, hp, fun i ⟨⟨b, u, q⟩, q2⟩ => ?_, ?_⟩
  · have ha : a ≠ p := fun z => h1 (by rw [z]; exact hg)
    refine E.nof a ?_ ?_
    · show upd G.g p o a ≠ none
      rw [upd_ne ha]; exact h1
    · show (if a = p then none else G.z a) = none
      rw [if_neg ha]; exact h2
  · have ha : a ≠ p := fun z => by rw [z, hg] at q; cases q
    exact E.keep a u (by show upd G.g p o a = _; rw [upd_ne ha]; exact q) nb
  · obtain ⟨a, h', q1, q2, q3, q4, q5⟩ := E.own i b u q
    refine ⟨a, h', q1, q2, q3, q4, q5.imp id fun ⟨z1, z2⟩ => ⟨z1, ?_⟩⟩
    have z2 : upd G.g p o a = none := z2
    by_cases ha : a = p
    · rw [ha]; exact hg
    · rw [upd_ne ha] at z2; exact z2
  · obtain ⟨a, h', q1, q2', q3, q4, q5⟩ := E.own i b u q
    rw [q2] at q1
    cases q1
    rcases q5 with ⟨_, z⟩ | ⟨_, z⟩
    · exact hb i z
    · have z : upd G.g p o p = none := z
      rw [upd_same] at z
      cases z
  · refine E.nof p ?_ ?_
    · show upd G.g p o p ≠ none
      rw [upd_same]
      exact fun z => nomatch z
    · show (if p = p then none else G.z p) = none
      rw [if_pos rfl]
theorem EOk.put (E : EOk T G B Z H σ e) {p : Addr} {o : HO} (n : ∀ i, ¬ Own σ e i p) (hz : Z p = none) (hg : G.g p = none) : EOk T G B Z (upd H p o) σ e where
  len := E.len
  sub := fun a u q => by
    rw [upd_ne (ne_of_none q hz)]
    exact E.sub a u q
  nof := E.nof
  keep := fun a u q nb => by
    rw [upd_ne (ne_of_none q hg)]
    exact E.keep a u q nb
  val := E.val
  own := fun i b u q => by
    obtain ⟨a, h', q1, q2, q3⟩ := E.own i b u q
    refine ⟨a, h', q1, ?_, q3⟩
    rw [upd_ne fun z => n i ⟨⟨_, _, q⟩, by rw [← z]; exact q1⟩]
    exact q2
  bor := E.bor
  dis := E.dis
end
abbrev W0 : WX := fun _ _ _ _ => False
def lcL (vs : List Nat) (h : D → Env' → Option Env') (c : Env' → RT) (f : Env' → R) : List D → List D → Env' → Option (List D × Env')
  | [], acc, e => some (acc, e)
  | d :: ds, acc, e => match h d e with
    | none => none
    | some e1 => match c e1 with
      | .ok true e2 => (match (f e2) with
        | .ok r e3 => (match fz r with
          | some y => if acc.length < 16777216 ∧ canWipe e3 vs = true then lcL vs h c f ds (acc ++ [y]) (wipeE e3 vs) else none
          | none => none)
        | _ => none)
      | .ok false e2 => if canWipe e2 vs = true then lcL vs h c f ds acc (wipeE e2 vs) else none
      | _ => none
def cLc (fi : Env' → RI) (vs : List Nat) (h : D → Env' → Option Env') (c : Env' → RT) (f : Env' → R) : Env' → R := fun env => match fi env with
  | .ok ds e => if canWipe e vs = true then (match lcL vs h c f ds [] (wipeE e vs) with | some (acc, e') => .ok (.o (.l acc)) (backE e e' vs) | none => .no) else .no
  | .ex x e => .ex x e
  | .no => .no
section
variable {X : Cx} {T : Tb} {W : WX}
def STs (X : Cx) (T : Tb) (W : WX) (ifs : List Expr) (c : Env' → RT) : Prop := PTs X ifs (tXT T W c)
def cYes : Env' → RT := fun e => .ok true e
theorem PTs.weak {ifs : List Expr} {t t' : TT} (h : PTs X ifs t) (w : ∀ σ H Q, t' σ H Q → t σ H Q) : PTs X ifs t' := ⟨fun pins s σ H Q I q => h.run pins s σ H Q I (w _ _ _ q)⟩
theorem sts_0 : STs X T W [] cYes := PTs.weak pts_nil fun σ H Q ⟨G, B, Z, env, E, q⟩ => q H Z (Same.refl _) E
theorem sts_1 {c : Expr} {t : Env' → RT} (h : ST X T W c t) : STs X T W [c] t := pts_one h
theorem lc_reads {fi : Env' → RI} {js vs : List Nat} {h : D → Env' → Option Env'} {c : Env' → RT} {f : Env' → R} (hj : ∀ j ∈ js, j ∈ vs) (σ : St) (H : Hp) (Q : VK) (q : tX T W (cLc fi vs h c f) σ H Q) :
    tLc (tXI T W fi) (fun v σ H Q => ∃ G B Z env d e, EOk T G B Z H σ env ∧ Rep T Z v d ∧ h d env = some e ∧ ∀ σ', (∀ j, j ∉ js → σ'[j]? = σ[j]?) → σ'.length = σ.length → EOk T G B Z H σ' e → Q σ' H) (tXT T W0 c) (tX T W0 f) vs σ H Q := by
  obtain ⟨G, B, Z, env, E, q⟩ := q
  refine ⟨G, B, Z, env, E, ?_⟩
  unfold cLc at q
  cases hf : fi env with
  | no => rw [hf] at q; exact q.elim
  | ex x e => rw [hf] at q; exact q
  | ok ds e =>
    rw [hf] at q
    dsimp only at q
    intro H1 Z1 s1 E1 J w p hp
    by_cases hw : canWipe e vs = true
    · rw [if_pos hw] at q
      cases hL : lcL vs h c f ds [] (wipeE e vs) with
      | none => rw [hL] at q; exact q.elim
      | some r =>
        obtain ⟨accF, eF⟩ := r
        rw [hL] at q
        have hbB : ∀ i, (i, p) ∉ B := fun i hi => by
          obtain ⟨⟨o, q1⟩, q2⟩ := E1.bor i p hi
          exact E1.nown hp i ⟨⟨_, _, q1⟩, q2⟩
        have hgp : G.g p = none := E1.gnone hp
        refine ⟨fun i m H => m = ds.length - i ∧ i ≤ ds.length ∧ ∃ Z2 e2 acc va, Same Z1 Z2 ∧ EOk T G B Z2 H (wipe σ vs) e2 ∧ H p = some (.lst va) ∧ Z2 p = none ∧ (∀ i, ¬ Own (wipe σ vs) e2 i p) ∧ Reps T Z2 va acc ∧ lcL vs h c f (ds.drop i) acc e2 = some (accF, eF),
          ⟨_, rfl, Nat.zero_le _, Z1, wipeE e vs, [], [], Same.refl _, (E1.new hp).wipe hw, upd_same, E1.znone hp, fun i o => E1.nown hp i (own_wipe E1.len o).2, .nil, hL⟩, ?_⟩
        rintro i m H2 ⟨rfl, hle, Z2, e2, acc, va, s2, E2, hpv, hzp, hno, rr, hl2⟩
        by_cases hlt : i < ds.length
        · have hd : ds[i]? = some ds[i] := List.getElem?_eq_getElem hlt
          obtain ⟨go, yld⟩ := w.go i ds[i] Z2 H2 hd s2 E2.sub
          have hdrop : ds.drop i = ds[i] :: ds.drop (i + 1) := List.drop_eq_getElem_cons hlt
          rw [hdrop] at hl2
          unfold lcL at hl2
          refine .inr ⟨go, fun H' => ∃ Z3 e3 acc va, Same Z1 Z3 ∧ EOk T G B Z3 H' (wipe σ vs) e3 ∧ H' p = some (.lst va) ∧ Z3 p = none ∧ (∀ i, ¬ Own (wipe σ vs) e3 i p) ∧ Reps T Z3 va acc ∧ lcL vs h c f (ds.drop (i + 1)) acc e3 = some (accF, eF),
            fun H' ⟨Z3, e3, a3, v3, k1, k2, k3, k4, k5, k6, k7⟩ => ⟨ds.length - (i + 1), by omega, rfl, hlt, Z3, e3, a3, v3, k1, k2, k3, k4, k5, k6, k7⟩, fun x H' y => ?_⟩
          obtain ⟨Z3, s3, r3, hy⟩ := yld x H' y
          have E3 := E2.yield hy
          have hpv3 : H' p = some (.lst va) := by
            rcases hy with ⟨rfl, _⟩ | ⟨t, o, ht, rfl, _⟩
            · exact hpv
            · rw [upd_ne (ne_of_none hpv ht)]; exact hpv
          have hzp3 : Z3 p = none := by
            rcases hy with ⟨_, rfl⟩ | ⟨t, o, ht, _, rfl⟩
            · exact hzp
            · rw [upd_ne (ne_of_none hpv ht)]; exact hzp
          cases hh : h ds[i] e2 with
          | none => rw [hh] at hl2; cases hl2
          | some e3 =>
            rw [hh] at hl2
            dsimp only at hl2
            have EH := E3.hold hpv3 hno hzp3 hgp
            refine ⟨G.hold p (.lst va), B, Z3, e2, ds[i], e3, EH, r3, hh, fun σ3 n3 l3 E4 => ⟨?_, ?_⟩⟩
            · rw [wipe_same (τ := wipe σ vs) l3 fun j hjv => n3 j fun z => hjv (hj j z), wipe_wipe]
            have hw3 : wipe σ3 vs = wipe σ vs := by rw [wipe_same (τ := wipe σ vs) l3 fun j hjv => n3 j fun z => hjv (hj j z), wipe_wipe]
            refine ⟨G.hold p (.lst va), B, Z3, e3, E4, ?_⟩
            cases hc : c e3 with
            | no => rw [hc] at hl2; cases hl2
            | ex x e => rw [hc] at hl2; cases hl2
            | ok b e4 =>
              rw [hc] at hl2
              cases b with
              | false =>
                dsimp only at hl2
                by_cases hw4 : canWipe e4 vs = true
                · rw [if_pos hw4] at hl2
                  intro H5 Z5 s5 E5
                  show if false = true then _ else _
                  rw [if_neg Bool.false_ne_true]
                  have E6 := E5.wipe hw4
                  rw [hw3] at E6
                  obtain ⟨E7, k1, k2, k3⟩ := E6.unhold hgp hbB
                  exact ⟨Z5, wipeE e4 vs, acc, va, (s2.trans s3).trans s5, E7, k1, k3, k2, rr.mono (s3.trans s5), hl2⟩
                · rw [if_neg hw4] at hl2; cases hl2
              | true =>
                dsimp only at hl2
                intro H5 Z5 s5 E5
                show if true = true then _ else _
                rw [if_pos rfl]
                refine ⟨G.hold p (.lst va), B, Z5, e4, E5, ?_⟩
                cases hfe : f e4 with
                | no => rw [hfe] at hl2; cases hl2
                | ex x e => rw [hfe] at hl2; cases hl2
                | ok r e5 =>
                  rw [hfe] at hl2
                  dsimp only at hl2
                  cases hfz : fz r with
                  | none => rw [hfz] at hl2; cases hl2
                  | some y =>
                    rw [hfz] at hl2
                    dsimp only at hl2
                    by_cases hw5 : acc.length < 16777216 ∧ canWipe e5 vs = true
                    · rw [if_pos hw5] at hl2
                      intro v H6 Z6 s6 E6 r6
                      obtain ⟨Z7, s7, E7, r7⟩ : ∃ Z7, Same Z6 Z7 ∧ EOk T (G.hold p (.lst va)) B Z7 H6 σ3 e5 ∧ Rep T Z7 v y := by
                        cases r with
                        | d d => cases hfz; exact ⟨Z6, Same.refl _, E6, r6⟩
                        | o o =>
                          cases o with
                          | s c xs => cases hfz
                          | l xs =>
                            cases hfz
                            exact frozen E6 r6
                      have E8 := E7.wipe hw5.2
                      rw [hw3] at E8
                      obtain ⟨E9, k1, k2, k3⟩ := E8.unhold hgp hbB
                      have rr7 := rr.mono ((s3.trans s5).trans (s6.trans s7))
                      refine ⟨va, k1, by rw [rr7.length, SZ_eq]; exact hw5.1, Z7, wipeE e5 vs, acc ++ [y], va ++ [v], (s2.trans s3).trans (s5.trans (s6.trans s7)), E9.put k2 k3 hgp, upd_same, k3, k2, rr7.append (.cons r7 .nil), hl2⟩
                    · rw [if_neg hw5] at hl2; cases hl2
        · have e0 : i = ds.length := by omega
          subst e0
          rw [List.drop_length] at hl2
          cases hl2
          refine .inl ⟨w.stop Z2 H2 s2 E2.sub, q _ H2 Z2 (s1.trans s2) (E1.back hw E2 s2) ⟨p, _, rfl, hpv, ⟨va, rfl, rr⟩, hzp, hgp, fun i ⟨⟨b, o, k1⟩, k2⟩ => ?_⟩⟩
          by_cases hi : i ∈ vs
          · rw [backE_in (by rw [← E2.len, wipe_length, E1.len]; exact (canWipe_at hw hi).1) hi] at k1
            have hb := (canWipe_at hw hi).1
            refine (canWipe_at hw hi).2 b o ?_
            rw [List.getElem?_eq_getElem hb]
            rw [List.getD_eq_getElem?_getD, List.getElem?_eq_getElem hb] at k1
            exact k1
          · rw [backE_out hi] at k1
            exact hno i ⟨⟨b, o, k1⟩, by rw [wipe_out' hi]; exact k2⟩
    · rw [if_neg hw] at q; exact q.elim
theorem se_lc {elt tg iter : Expr} {ifs : List Expr} {scope : Scope} {own : List (Str × Nat)} {pos : Pos} {fi : Env' → RI} {js : List Nat} {vs : List Nat} {h : D → Env' → Option Env'} {c : Env' → RT} {f : Env' → R} (hc : X.calm = true) (hN : X.N.Nodup) (hi : SI X T W tg iter fi) (ok : BlkOk X.N X.env.scope scope own)
    (hg : ∀ (s : Shared) (H : Hp) (C : Addr) (cl : List (Str × Addr)) (fp : List Addr), SG (X.blk s H scope (compEnvC scope cl C X.env) fp) T tg js h) (ht : ∀ (s : Shared) (H : Hp) (C : Addr) (cl : List (Str × Addr)) (fp : List Addr), STs (X.blk s H scope (compEnvC scope cl C X.env) fp) T W0 ifs c)
    (he : ∀ (s : Shared) (H : Hp) (C : Addr) (cl : List (Str × Addr)) (fp : List Addr), SE (X.blk s H scope (compEnvC scope cl C X.env) fp) T W0 elt f) (hvs : own.map (·.2) = vs := by rfl) (hj : ∀ j ∈ js, j ∈ vs := by decide) (hs : ∀ x, foldedSetIterable iter X.env x = pure x := by intro _; rfl) :
    SE X T W (.ListComp elt [⟨tg, iter, ifs, 0⟩] scope pos) (cLc fi vs h c f) := by
  subst hvs
  exact PE.weak (pe_lc hc hN hi ok hg ht he hs) (lc_reads hj)
theorem ss_setLc {i : Nat} {y : Str} {py : Pos} {elt tg iter : Expr} {ifs : List Expr} {scope : Scope} {own : List (Str × Nat)} {pos spos : Pos} {fi : Env' → RI} {js : List Nat} {vs : List Nat} {h : D → Env' → Option Env'} {c : Env' → RT} {f : Env' → R} (hc : X.calm = true) (hN : X.N.Nodup) (hi : SI X T W tg iter fi) (ok : BlkOk X.N X.env.scope scope own)
    (hg : ∀ (s : Shared) (H : Hp) (C : Addr) (cl : List (Str × Addr)) (fp : List Addr), SG (X.blk s H scope (compEnvC scope cl C X.env) fp) T tg js h) (ht : ∀ (s : Shared) (H : Hp) (C : Addr) (cl : List (Str × Addr)) (fp : List Addr), STs (X.blk s H scope (compEnvC scope cl C X.env) fp) T W0 ifs c)
    (he : ∀ (s : Shared) (H : Hp) (C : Addr) (cl : List (Str × Addr)) (fp : List Addr), SE (X.blk s H scope (compEnvC scope cl C X.env) fp) T W0 elt f)
    (hsw : swapsWith (.ListComp elt [⟨tg, iter, ifs, 0⟩] scope pos) (some (.Name y py)) spos.line X.env = pure true := by exact sw_true rfl rfl rfl (by decide +kernel)) (hy : X.N[i]? = some y := by rfl) (hyl : X.env.scope.names.lookup y = some .local := by rfl) (hvs : own.map (·.2) = vs := by rfl) (hj : ∀ j ∈ js, j ∈ vs := by decide) (hs : ∀ x, foldedSetIterable iter X.env x = pure x := by intro _; rfl) :
    SS X T W (.Assign [.Name y py] (.ListComp elt [⟨tg, iter, ifs, 0⟩] scope pos) spos) (sSet i (cLc fi vs h c f)) := by
  subst hvs
  exact PS.weak (ps_setLc hc hN hy hyl hsw hi ok hg ht he hs) fun K σ H q => by
    have k := set_reads (i := i) rfl K σ H q
    exact lc_reads hj σ H _ k
theorem ss_setLcO {i : Nat} {y : Str} {py : Pos} {elt tg iter : Expr} {ifs : List Expr} {scope : Scope} {own : List (Str × Nat)} {pos spos : Pos} {fi : Env' → RI} {js : List Nat} {vs : List Nat} {h : D → Env' → Option Env'} {c : Env' → RT} {f : Env' → R} (hc : X.calm = true) (hN : X.N.Nodup) (hi : SI X T W tg iter fi) (ok : BlkOk X.N X.env.scope scope own)
    (hg : ∀ (s : Shared) (H : Hp) (C : Addr) (cl : List (Str × Addr)) (fp : List Addr), SG (X.blk s H scope (compEnvC scope cl C X.env) fp) T tg js h) (ht : ∀ (s : Shared) (H : Hp) (C : Addr) (cl : List (Str × Addr)) (fp : List Addr), STs (X.blk s H scope (compEnvC scope cl C X.env) fp) T W0 ifs c)
    (he : ∀ (s : Shared) (H : Hp) (C : Addr) (cl : List (Str × Addr)) (fp : List Addr), SE (X.blk s H scope (compEnvC scope cl C X.env) fp) T W0 elt f)
    (hsw : swapsWith (.ListComp elt [⟨tg, iter, ifs, 0⟩] scope pos) (some (.Name y py)) spos.line X.env = pure true := by exact sw_true rfl rfl rfl (by decide +kernel)) (hy : X.N[i]? = some y := by rfl) (hyl : X.env.scope.names.lookup y = some .local := by rfl) (hvs : own.map (·.2) = vs := by rfl) (hj : ∀ j ∈ js, j ∈ vs := by decide) (hs : ∀ x, foldedSetIterable iter X.env x = pure x := by intro _; rfl) :
    SS X T W (.Assign [.Name y py] (.ListComp elt [⟨tg, iter, ifs, 0⟩] scope pos) spos) (sSetO i (cLc fi vs h c f)) := by
  subst hvs
  exact PS.weak (ps_setLc hc hN hy hyl hsw hi ok hg ht he hs) fun K σ H q => by
    have k := setO_reads (i := i) rfl K σ H q
    exact lc_reads hj σ H _ k
end
end L2.S

set_option Elab.async false
set_option linter.all false
set_option maxRecDepth 100000
set_option maxHeartbeats 4000000
namespace L2.S
open PySem PySem.Spec PyProof.Rows
inductive RF where
  | ok (r : RV) (outs : List (Nat × OB)) | ex (x : Ex) (outs : List (Nat × OB)) | no
abbrev Fn := List SV → RF
def lentA (vs : List V) (as : List SV) : List (Nat × Addr) := (List.range as.length).filterMap fun (i : Nat) => match as[i]?, vs[i]? with | some (SV.own _ _), some (V.ref a) => some (i, a) | _, _ => none
theorem mem_lentA {vs : List V} {as : List SV} {i : Nat} {a : Addr} : (i, a) ∈ lentA vs as ↔ (∃ b o, as[i]? = some (.own b o)) ∧ vs[i]? = some (.ref a) := by
  unfold lentA
  rw [List.mem_filterMap]
  constructor
  · rintro ⟨j, _, h⟩
    split at h
    · rename_i b o c h1 h2
      cases h
      exact ⟨⟨_, _, h1⟩, h2⟩
    · cases h
  · rintro ⟨⟨b, o, h1⟩, h2⟩
    refine ⟨i, List.mem_range.mpr (List.getElem?_eq_some_iff.mp h1).1, ?_⟩
    rw [h1, h2]
structure ArgsOk (T : Tb) (Z H : Hp) (vs : List V) (as : List SV) : Prop where
  len : vs.length = as.length
  val : ∀ (i : Nat) (d : D), as[i]? = some (.val d) → ∃ v, vs[i]? = some v ∧ Rep T Z v d
  own : ∀ (i : Nat) (b : Bool) (o : OB), as[i]? = some (.own b o) → b = true ∧ ∃ a h, vs[i]? = some (.ref a) ∧ H a = some h ∧ ORep T Z h o ∧ Z a = none
  dis : ∀ i j a, i ≠ j → (i, a) ∈ lentA vs as → (j, a) ∉ lentA vs as
def outsA (i : Nat) : List SV → Env' → List (Nat × OB)
  | [], _ => []
  | _ :: _, [] => []
  | w :: as, x :: e => match w, x with
    | .own _ _, .own _ o => (i, o) :: outsA (i + 1) as e
    | _, _ => outsA (i + 1) as e
theorem outsA_get : ∀ {as : List SV} {e : Env'} (i j : Nat) {b c : Bool} {o o' : OB}, as[j]? = some (.own b o) → e[j]? = some (.own c o') → (outsA i as e).lookup (i + j) = some o'
  | [], _, _, _, _, _, _, _, h, _ => by simp at h
  | _ :: _, [], _, _, _, _, _, _, _, h => by simp at h
  | w :: as, x :: e, i, 0, b, c, o, o', h1, h2 => by
    simp at h1 h2
    subst h1; subst h2
    simp [outsA]
  | w :: as, x :: e, i, j + 1, b, c, o, o', h1, h2 => by
    have ih := outsA_get (as := as) (e := e) (i + 1) j (b := b) (c := c) (o := o) (o' := o') (by simpa using h1) (by simpa using h2)
    have e1 : i + 1 + j = i + (j + 1) := by omega
    rw [e1] at ih
    unfold outsA
    split
    · rw [List.lookup_cons]
      have : (i + (j + 1) == i) = false := by simp
      rw [this]
      exact ih
    · exact ih
def ResOk (T : Tb) (H Z' H' : Hp) (v : V) : RV → Prop
  | .d d => Rep T Z' v d
  | .o o => ∃ a h, v = .ref a ∧ H' a = some h ∧ ORep T Z' h o ∧ Z' a = none ∧ H a = none
structure After (T : Tb) (Z H Z' H' : Hp) (vs : List V) (as : List SV) (outs : List (Nat × OB)) : Prop where
  zz : Same Z Z'
  sub : Same Z' H'
  keep : ∀ a o, H a = some o → (∀ i, (i, a) ∉ lentA vs as) → H' a = some o
  nof : ∀ a, H a ≠ none → Z a = none → Z' a = none
  outs : ∀ i a, (i, a) ∈ lentA vs as → ∃ o h, outs.lookup i = some o ∧ H' a = some h ∧ ORep T Z' h o ∧ Z' a = none
def PF (T : Tb) (Z H : Hp) (vs : List V) (as : List SV) (Q : VK) (E : XK) : RF → Prop
  | .ok r outs => ∀ v H' Z', After T Z H Z' H' vs as outs → ResOk T H Z' H' v r → Q v H'
  | .ex x outs => ∀ cls d H' Z', After T Z H Z' H' vs as outs → XRep T Z' H' cls d x → E cls d H'
  | .no => False
def sp (T : Tb) (φ : Fn) : Sp := fun vs H Q E => ∃ Z as, Same Z H ∧ ArgsOk T Z H vs as ∧ PF T Z H vs as Q E (φ as)
def bodyF (g : Env' → RS) (n : Nat) (as : List SV) : RF := match g (as ++ List.replicate (n - as.length) .un) with
  | .rt r e => .ok r (outsA 0 as e)
  | .nx e => .ok (.d .non) (outsA 0 as e)
  | .ex x e => .ex x (outsA 0 as e)
  | _ => .no
theorem EOk.start {T : Tb} {Z H : Hp} {vs : List V} {as : List SV} {N : List Str} (s : Same Z H) (A : ArgsOk T Z H vs as) (hl : as.length ≤ N.length) : EOk T ⟨H, Z⟩ (lentA vs as) Z H (start N vs) (as ++ List.replicate (N.length - as.length) .un) := by
  have av : ∀ (j : Nat) (w : SV), (as ++ List.replicate (N.length - as.length) SV.un)[j]? = some w → w ≠ .un → as[j]? = some w := fun j w q hn => by
    by_cases hj : j < as.length
    · rw [List.getElem?_append_left hj] at q; exact q
    · rw [List.getElem?_append_right (by omega), List.getElem?_replicate] at q
      split at q
      · cases q; exact (hn rfl).elim
      · cases q
  have vv : ∀ (j : Nat) (v : V), vs[j]? = some v → (L2.start N vs)[j]? = some (some v) := fun j v q => by
    have hj := (List.getElem?_eq_some_iff.mp q).1
    unfold L2.start
    rw [List.getElem?_append_left (by simpa using hj), List.getElem?_map, q]
    rfl
  have oo : ∀ j a, Own (L2.start N vs) (as ++ List.replicate (N.length - as.length) SV.un) j a → (j, a) ∈ lentA vs as := fun j a ⟨⟨b, o, q⟩, q2⟩ => by
    have q' := av j _ q (fun z => nomatch z)
    obtain ⟨_, a', h, e1, _⟩ := A.own j b o q'
    have := vv j _ e1
    rw [q2] at this
    cases this
    exact mem_lentA.mpr ⟨⟨b, o, q'⟩, e1⟩
  refine ⟨?_, s, fun a h1 h2 => h2, fun a o q _ => q, fun j d q => ?_, fun j b o q => ?_, fun j a q => ?_, fun j k a n o1 o2 => A.dis j k a n (oo j a o1) (oo k a o2)⟩
  · unfold L2.start
    rw [List.length_append, List.length_append, List.length_map, List.length_replicate, List.length_replicate, A.len]
  · obtain ⟨v, e1, r⟩ := A.val j d (av j _ q (fun z => nomatch z))
    exact ⟨v, vv j v e1, r⟩
  · have q' := av j _ q (fun z => nomatch z)
    obtain ⟨eb, a, h, e1, e2, e3, e4⟩ := A.own j b o q'
    exact ⟨a, h, vv j _ e1, e2, e3, e4, .inl ⟨eb, mem_lentA.mpr ⟨⟨b, o, q'⟩, e1⟩⟩⟩
  · obtain ⟨⟨b, o, q1⟩, q2⟩ := mem_lentA.mp q
    obtain ⟨eb, _⟩ := A.own j b o q1
    subst eb
    refine ⟨⟨o, ?_⟩, vv j _ q2⟩
    rw [List.getElem?_append_left (List.getElem?_eq_some_iff.mp q1).1]
    exact q1
theorem EOk.after {T : Tb} {Z H Z' H' : Hp} {vs : List V} {as : List SV} {σ : St} {e : Env'} (A : ArgsOk T Z H vs as) (s : Same Z Z') (E : EOk T ⟨H, Z⟩ (lentA vs as) Z' H' σ e) : After T Z H Z' H' vs as (outsA 0 as e) where
  zz := s
  sub := E.sub
  keep := fun a o q n => E.keep a o q n
  nof := fun a h1 h2 => E.nof a h1 h2
  outs := fun i a q => by
    obtain ⟨⟨o, q1⟩, q2⟩ := E.bor i a q
    obtain ⟨a', h, e1, e2, e3, e4, _⟩ := E.own i true o q1
    rw [q2] at e1
    cases e1
    obtain ⟨⟨b, o', k1⟩, k2⟩ := mem_lentA.mp q
    have := outsA_get 0 i k1 q1
    rw [Nat.zero_add] at this
    exact ⟨o, h, this, e2, e3, e4⟩
theorem fn_s {P : Program} {w : World} {K : PySem.W.Frag} {mg : Str → Option Value} {base : Heap} {T : Tb} {x qual : Str} {st : Stmt} {f : Addr} {fd : FuncData} {N ps : List Str} {k : Nat} {φ : Fn} {g : Env' → RS} (F : Fun K x qual st f fd) (S : FnScope N ps (defScope st))
    (hn : ∀ as, φ as ≠ .no → as.length = ps.length ∧ bodyF g N.length as = φ as)
    (body : ∀ (cdv : Value) (A : Around) (outer : List Env) (s : Shared) (H : Hp) (E : XK), Room k (A.deeper (envOfC qual (defScope st) s.heap.objs.size f cdv)) →
      SSs (cxOf (L2.CX P w) P w K mg base N qual (defScope st) f cdv A outer s H E) T (fun cls d _ H => E cls d H) (defBody st) g) :
    FnOk P w K mg base (L2.CX P w) (k + 1) f fd ps (sp T φ) := by
  have hpl : ps.length ≤ N.length := by have := congrArg List.length S.pre; rw [List.length_take] at this; omega
  refine F.okX S (fun vs H Q E ⟨Z, as, s, A, q⟩ => ?_) (fun cdv A outer s H vs Q E hr ⟨Z, as, ss, AA, q⟩ => ⟨_, body cdv A outer s H E hr, ?_⟩)
  · rw [A.len]
    refine (hn as fun z => ?_).1
    rw [z] at q
    exact q
  · have hno : φ as ≠ .no := fun z => by rw [z] at q; exact q
    obtain ⟨hl, hb⟩ := hn as hno
    refine ⟨⟨H, Z⟩, lentA vs as, Z, _, EOk.start ss AA (by rw [hl]; exact hpl), ?_⟩
    rw [← hb] at q
    unfold bodyF at q
    cases hg : g (as ++ List.replicate (N.length - as.length) .un) with
    | rt r e =>
      rw [hg] at q
      intro v σ' H' Z' s' E' r'
      refine q v H' Z' (E'.after AA s') ?_
      cases r with
      | d d => exact r'
      | o o =>
        obtain ⟨a, h, e1, e2, e3, e4, e5, _⟩ := r'
        exact ⟨a, h, e1, e2, e3, e4, e5⟩
    | nx e =>
      rw [hg] at q
      intro σ' H' Z' s' E'
      exact q .non H' Z' (E'.after AA s') .non
    | ex x e =>
      rw [hg] at q
      intro c d σ' H' Z' s' E' r'
      exact q c d H' Z' (E'.after AA s') r'
    | bk e => rw [hg] at q; exact q.elim
    | ct e => rw [hg] at q; exact q.elim
    | no => rw [hg] at q; exact q.elim

def svs (e : Env') : List AV → Option (List SV)
  | [] => some []
  | .d d :: as => (svs e as).map (.val d :: ·)
  | .s i :: as => match e[i]? with | some (.own _ o) => (svs e as).map (.own true o :: ·) | _ => none
def slots : List AV → List Nat
  | [] => []
  | .d _ :: as => slots as
  | .s i :: as => i :: slots as
def setO (e : Env') (i : Nat) (o : OB) : Env' := match e[i]? with | some (.own b _) => e.set i (.own b o) | _ => e
def putA (k : Nat) (e : Env') (outs : List (Nat × OB)) : List AV → Env'
  | [] => e
  | .d _ :: as => putA (k + 1) e outs as
  | .s i :: as => putA (k + 1) (match outs.lookup k with | some o => setO e i o | none => e) outs as
def callR (φ : Fn) (dds : List D) (avs : List AV) (e : Env') : R := match svs e avs with
  | some as => if (slots avs).Nodup then (match φ (as ++ dds.map .val) with
    | .ok r outs => .ok r (putA 0 e outs avs)
    | .ex x outs => .ex x (putA 0 e outs avs)
    | .no => .no) else .no
  | none => .no
theorem svs_get {e : Env'} : ∀ {avs : List AV} {as : List SV}, svs e avs = some as → as.length = avs.length ∧ ∀ (k : Nat), (∀ d, avs[k]? = some (.d d) → as[k]? = some (.val d)) ∧ (∀ i, avs[k]? = some (.s i) → ∃ b o, e[i]? = some (.own b o) ∧ as[k]? = some (.own true o))
  | [], _, h => by cases h; exact ⟨rfl, fun k => ⟨fun d q => by simp at q, fun i q => by simp at q⟩⟩
  | .d d :: avs, as, h => by
    have h' : (svs e avs).map (SV.val d :: ·) = some as := h
    cases q : svs e avs with
    | none => rw [q] at h'; cases h'
    | some r =>
      rw [q] at h'
      cases h'
      obtain ⟨h1, h2⟩ := svs_get q
      refine ⟨by rw [List.length_cons, List.length_cons, h1], fun k => ?_⟩
      cases k with
      | zero => exact ⟨fun d' q' => by simp at q'; simp [q'], fun i q' => by simp at q'⟩
      | succ k => exact ⟨fun d' q' => by simpa using (h2 k).1 d' (by simpa using q'), fun i q' => by simpa using (h2 k).2 i (by simpa using q')⟩
  | .s i :: avs, as, h => by
    unfold svs at h
    split at h
    · rename_i b o he
      cases q : svs e avs with
      | none => rw [q] at h; cases h
      | some r =>
        rw [q] at h
        cases h
        obtain ⟨h1, h2⟩ := svs_get q
        refine ⟨by rw [List.length_cons, List.length_cons, h1], fun k => ?_⟩
        cases k with
        | zero => exact ⟨fun d' q' => by simp at q', fun j q' => by simp at q'; subst q'; exact ⟨b, o, he, by simp⟩⟩
        | succ k => exact ⟨fun d' q' => by simpa using (h2 k).1 d' (by simpa using q'), fun i q' => by simpa using (h2 k).2 i (by simpa using q')⟩
    · cases h
theorem avok_get {T : Tb} {Z : Hp} {σ : St} : ∀ {vs : List V} {as : List AV}, AVOk T Z σ vs as → vs.length = as.length ∧ ∀ (k : Nat), (∀ d, as[k]? = some (.d d) → ∃ v, vs[k]? = some v ∧ Rep T Z v d) ∧ (∀ i, as[k]? = some (.s i) → ∃ v, vs[k]? = some v ∧ σ[i]? = some (some v))
  | [], [], _ => ⟨rfl, fun k => ⟨fun d q => by simp at q, fun i q => by simp at q⟩⟩
  | v :: vs, .d d :: as, h => by
    obtain ⟨h1, h2⟩ := avok_get h.2
    refine ⟨by rw [List.length_cons, List.length_cons, h1], fun k => ?_⟩
    cases k with
    | zero => exact ⟨fun d' q => by simp at q; subst q; exact ⟨v, by simp, h.1⟩, fun i q => by simp at q⟩
    | succ k => exact ⟨fun d' q => by simpa using (h2 k).1 d' (by simpa using q), fun i q => by simpa using (h2 k).2 i (by simpa using q)⟩
  | v :: vs, .s i :: as, h => by
    obtain ⟨h1, h2⟩ := avok_get h.2
    refine ⟨by rw [List.length_cons, List.length_cons, h1], fun k => ?_⟩
    cases k with
    | zero => exact ⟨fun d' q => by simp at q, fun j q => by simp at q; subst q; exact ⟨v, by simp, h.1⟩⟩
    | succ k => exact ⟨fun d' q => by simpa using (h2 k).1 d' (by simpa using q), fun i q => by simpa using (h2 k).2 i (by simpa using q)⟩
  | [], .d _ :: _, h => h.elim
  | [], .s _ :: _, h => h.elim
  | _ :: _, [], h => h.elim
theorem mem_slots : ∀ {avs : List AV} {i : Nat}, i ∈ slots avs ↔ ∃ k : Nat, avs[k]? = some (.s i)
  | [], i => by simp [slots]
  | .d d :: avs, i => by
    rw [slots, mem_slots]
    exact ⟨fun ⟨k, h⟩ => ⟨k + 1, by simpa using h⟩, fun ⟨k, h⟩ => by
      cases k with
      | zero => simp at h
      | succ k => exact ⟨k, by simpa using h⟩⟩
  | .s j :: avs, i => by
    rw [slots, List.mem_cons, mem_slots]
    constructor
    · rintro (rfl | ⟨k, h⟩)
      · exact ⟨0, by simp⟩
      · exact ⟨k + 1, by simpa using h⟩
    · rintro ⟨k, h⟩
      cases k with
      | zero => simp at h; exact .inl h.symm
      | succ k => exact .inr ⟨k, by simpa using h⟩
theorem slots_inj : ∀ {avs : List AV} {i k l : Nat}, (slots avs).Nodup → avs[k]? = some (.s i) → avs[l]? = some (.s i) → k = l
  | [], _, _, _, _, h, _ => by simp at h
  | .d d :: avs, i, k, l, nd, h1, h2 => by
    cases k with
    | zero => simp at h1
    | succ k =>
      cases l with
      | zero => simp at h2
      | succ l => rw [slots_inj (avs := avs) (i := i) (k := k) (l := l) nd (by simpa using h1) (by simpa using h2)]
  | .s j :: avs, i, k, l, nd, h1, h2 => by
    have nd' := List.nodup_cons.mp nd
    cases k with
    | zero =>
      cases l with
      | zero => rfl
      | succ l =>
        simp at h1
        subst h1
        exact (nd'.1 (mem_slots.mpr ⟨l, by simpa using h2⟩)).elim
    | succ k =>
      cases l with
      | zero =>
        simp at h2
        subst h2
        exact (nd'.1 (mem_slots.mpr ⟨k, by simpa using h1⟩)).elim
      | succ l => rw [slots_inj (avs := avs) (i := i) (k := k) (l := l) nd'.2 (by simpa using h1) (by simpa using h2)]
theorem setO_length (e : Env') (i : Nat) (o : OB) : (setO e i o).length = e.length := by
  unfold setO
  split
  · rw [List.length_set]
  · rfl
theorem setO_ne {e : Env'} {i j : Nat} {o : OB} (h : i ≠ j) : (setO e i o)[j]? = e[j]? := by
  unfold setO
  split
  · rw [List.getElem?_set_ne h]
  · rfl
theorem setO_at {e : Env'} {i : Nat} {o o' : OB} {b : Bool} (h : e[i]? = some (.own b o')) : (setO e i o)[i]? = some (.own b o) := by
  unfold setO
  rw [h]
  exact List.getElem?_set_self (List.getElem?_eq_some_iff.mp h).1
theorem putA_length {outs : List (Nat × OB)} : ∀ {avs : List AV} (k : Nat) (e : Env'), (putA k e outs avs).length = e.length
  | [], _, _ => rfl
  | .d _ :: avs, k, e => putA_length (avs := avs) (k + 1) e
  | .s i :: avs, k, e => by
    show (putA (k + 1) _ outs avs).length = _
    rw [putA_length (avs := avs)]
    split
    · rw [setO_length]
    · rfl
theorem putA_out {outs : List (Nat × OB)} {j : Nat} : ∀ {avs : List AV} (k : Nat) (e : Env'), j ∉ slots avs → (putA k e outs avs)[j]? = e[j]?
  | [], _, _, _ => rfl
  | .d _ :: avs, k, e, h => putA_out (avs := avs) (k + 1) e h
  | .s i :: avs, k, e, h => by
    rw [slots, List.mem_cons, not_or] at h
    show (putA (k + 1) _ outs avs)[j]? = _
    rw [putA_out (avs := avs) _ _ h.2]
    split
    · exact setO_ne fun z => h.1 z.symm
    · rfl
theorem putA_at {outs : List (Nat × OB)} {i : Nat} {b : Bool} {o o' : OB} : ∀ {avs : List AV} (k l : Nat) (e : Env'), (slots avs).Nodup → avs[l]? = some (.s i) → e[i]? = some (.own b o') → outs.lookup (k + l) = some o → (putA k e outs avs)[i]? = some (.own b o)
  | [], _, _, _, _, h, _, _ => by simp at h
  | .d _ :: avs, k, l, e, nd, h, he, ho => by
    cases l with
    | zero => simp at h
    | succ l =>
      have e1 : k + (l + 1) = k + 1 + l := by omega
      rw [e1] at ho
      exact putA_at (avs := avs) (k + 1) l e nd (by simpa using h) he ho
  | .s j :: avs, k, l, e, nd, h, he, ho => by
    have nd' := List.nodup_cons.mp nd
    cases l with
    | zero =>
      simp at h
      subst h
      show (putA (k + 1) _ outs avs)[j]? = _
      rw [putA_out (avs := avs) _ _ nd'.1]
      rw [Nat.add_zero] at ho
      rw [ho]
      exact setO_at he
    | succ l =>
      have e1 : k + (l + 1) = k + 1 + l := by omega
      rw [e1] at ho
      have hij : j ≠ i := fun z => nd'.1 (mem_slots.mpr ⟨l, by rw [z]; simpa using h⟩)
      refine putA_at (o' := o') (avs := avs) (k + 1) l _ nd'.2 (by simpa using h) ?_ ho
      split
      · rw [setO_ne hij]; exact he
      · exact he
section
variable {T : Tb} {W : WX} {G : Gd} {B : List (Nat × Addr)} {Z H : Hp} {σ : St} {e : Env'} {vs : List V} {avs : List AV} {as : List SV} {φ : Fn} {Q : VK}
theorem args_ok (E : EOk T G B Z H σ e) (r : AVOk T Z σ vs avs) (hs : svs e avs = some as) (nd : (slots avs).Nodup) : ArgsOk T Z H vs as ∧ ∀ k a, (k, a) ∈ lentA vs as ↔ ∃ i, avs[k]? = some (.s i) ∧ Own σ e i a := by
  obtain ⟨l1, g1⟩ := svs_get hs
  obtain ⟨l2, g2⟩ := avok_get r
  have at_ : ∀ (k : Nat) (w : SV), as[k]? = some w → (∃ d, avs[k]? = some (.d d) ∧ w = .val d) ∨ ∃ i b o, avs[k]? = some (.s i) ∧ e[i]? = some (.own b o) ∧ w = .own true o := fun k w q => by
    have hk : k < avs.length := by rw [← l1]; exact (List.getElem?_eq_some_iff.mp q).1
    have hq : avs[k]? = some avs[k] := List.getElem?_eq_getElem hk
    cases hv : avs[k] with
    | d d =>
      rw [hv] at hq
      have := (g1 k).1 d hq
      rw [q] at this
      cases this
      exact .inl ⟨d, hq, rfl⟩
    | s i =>
      rw [hv] at hq
      obtain ⟨b, o, h1, h2⟩ := (g1 k).2 i hq
      rw [q] at h2
      cases h2
      exact .inr ⟨i, b, o, hq, h1, rfl⟩
  have mb : ∀ k a, (k, a) ∈ lentA vs as ↔ ∃ i, avs[k]? = some (.s i) ∧ Own σ e i a := fun k a => by
    constructor
    · intro q
      obtain ⟨⟨b, o, q1⟩, q2⟩ := mem_lentA.mp q
      rcases at_ k _ q1 with ⟨d, _, z⟩ | ⟨i, b', o', h1, h2, z⟩
      · cases z
      · obtain ⟨v, k1, k2⟩ := (g2 k).2 i h1
        rw [q2] at k1
        cases k1
        exact ⟨i, h1, ⟨b', o', h2⟩, k2⟩
    · rintro ⟨i, h1, ⟨_, _, _⟩, h3⟩
      obtain ⟨b', o', h4, h5⟩ := (g1 k).2 i h1
      obtain ⟨v, k1, k2⟩ := (g2 k).2 i h1
      rw [h3] at k2
      cases k2
      exact mem_lentA.mpr ⟨⟨_, _, h5⟩, k1⟩
  refine ⟨⟨by rw [l1, l2], fun k d q => ?_, fun k b o q => ?_, fun k l a n q1 q2 => ?_⟩, mb⟩
  · rcases at_ k _ q with ⟨d', h1, z⟩ | ⟨i, b, o, _, _, z⟩
    · cases z
      exact (g2 k).1 d h1
    · cases z
  · rcases at_ k _ q with ⟨d', h1, z⟩ | ⟨i, b', o', h1, h2, z⟩
    · cases z
    · cases z
      obtain ⟨v, k1, k2⟩ := (g2 k).2 i h1
      obtain ⟨a, h, e1, e2, e3, e4, _⟩ := E.own i b' o h2
      rw [k2] at e1
      cases e1
      exact ⟨rfl, a, h, k1, e2, e3, e4⟩
  · obtain ⟨i, h1, o1⟩ := (mb k a).mp q1
    obtain ⟨j, h2, o2⟩ := (mb l a).mp q2
    by_cases hij : i = j
    · subst hij
      exact n (slots_inj nd h1 h2)
    · exact E.dis i j a hij o1 o2
theorem back_ok {Z' H' : Hp} {outs : List (Nat × OB)} (E : EOk T G B Z H σ e) (hs : svs e avs = some as) (nd : (slots avs).Nodup) (mb : ∀ k a, (k, a) ∈ lentA vs as ↔ ∃ i, avs[k]? = some (.s i) ∧ Own σ e i a) (A : After T Z H Z' H' vs as outs) : EOk T G B Z' H' σ (putA 0 e outs avs) := by
  have hn : ∀ a, G.g a ≠ none → H a ≠ none := fun a h1 h2 => h1 (E.gnone h2)
  have lent : ∀ {k i : Nat}, avs[k]? = some (.s i) → ∃ b o o' a h, e[i]? = some (.own b o') ∧ σ[i]? = some (some (.ref a)) ∧ (putA 0 e outs avs)[i]? = some (.own b o) ∧ H' a = some h ∧ ORep T Z' h o ∧ Z' a = none ∧ ((b = true ∧ (i, a) ∈ B) ∨ (b = false ∧ G.g a = none)) := fun {k i} h1 => by
    obtain ⟨b, o', h2, _⟩ := ((svs_get hs).2 k).2 i h1
    obtain ⟨a, h, e1, e2, e3, e4, e5⟩ := E.own i b o' h2
    obtain ⟨o, h', k1, k2, k3, k4⟩ := A.outs k a ((mb k a).mpr ⟨i, h1, ⟨b, o', h2⟩, e1⟩)
    exact ⟨b, o, o', a, h', h2, e1, putA_at 0 k e nd h1 h2 (by rw [Nat.zero_add]; exact k1), k2, k3, k4, e5⟩
  have own_ : ∀ i a, Own σ (putA 0 e outs avs) i a → Own σ e i a := fun i a ⟨⟨b, o, q⟩, q2⟩ => by
    by_cases hi : i ∈ slots avs
    · obtain ⟨k, hk⟩ := mem_slots.mp hi
      obtain ⟨b', o', o2, a', h, h1, _⟩ := lent hk
      exact ⟨⟨b', o2, h1⟩, q2⟩
    · rw [putA_out 0 e hi] at q
      exact ⟨⟨b, o, q⟩, q2⟩
  refine ⟨by rw [putA_length]; exact E.len, A.sub, fun a h1 h2 => A.nof a (hn a h1) (E.nof a h1 h2), fun a o q nb => A.keep a o (E.keep a o q nb) fun k hk => ?_, fun i d q => ?_, fun i b o q => ?_, fun i a q => ?_, fun i j a n o1 o2 => E.dis i j a n (own_ i a o1) (own_ j a o2)⟩
  · obtain ⟨i, h1, ⟨b, o', h2⟩, h3⟩ := (mb k a).mp hk
    obtain ⟨a', h, e1, _, _, _, e5⟩ := E.own i b o' h2
    rw [h3] at e1
    cases e1
    rcases e5 with ⟨_, z⟩ | ⟨_, z⟩
    · exact nb i z
    · rw [q] at z; cases z
  · by_cases hi : i ∈ slots avs
    · obtain ⟨k, hk⟩ := mem_slots.mp hi
      obtain ⟨b, o, _, a, h, _, _, h1, _⟩ := lent hk
      rw [q] at h1
      cases h1
    · rw [putA_out 0 e hi] at q
      obtain ⟨v, q1, q2⟩ := E.val i d q
      exact ⟨v, q1, q2.mono A.zz⟩
  · by_cases hi : i ∈ slots avs
    · obtain ⟨k, hk⟩ := mem_slots.mp hi
      obtain ⟨b', o', _, a, h, _, h0, h1, h2, h3, h4, h5⟩ := lent hk
      rw [q] at h1
      cases h1
      exact ⟨a, h, h0, h2, h3, h4, h5⟩
    · rw [putA_out 0 e hi] at q
      obtain ⟨a, h, e1, e2, e3, e4, e5⟩ := E.own i b o q
      refine ⟨a, h, e1, A.keep a h e2 fun k hk => ?_, e3.mono A.zz, A.nof a (by rw [e2]; exact fun z => nomatch z) e4, e5⟩
      obtain ⟨j, h1, oj⟩ := (mb k a).mp hk
      have hij : i ≠ j := fun z => hi (mem_slots.mpr ⟨k, by rw [z]; exact h1⟩)
      exact E.dis i j a hij ⟨⟨b, o, q⟩, e1⟩ oj
  · obtain ⟨⟨o, q1⟩, q2⟩ := E.bor i a q
    by_cases hi : i ∈ slots avs
    · obtain ⟨k, hk⟩ := mem_slots.mp hi
      obtain ⟨b', o', o2, a', h, h1, _, h2, _⟩ := lent hk
      rw [q1] at h1
      cases h1
      exact ⟨⟨o', h2⟩, q2⟩
    · exact ⟨⟨o, by rw [putA_out 0 e hi]; exact q1⟩, q2⟩
theorem res_ok {Z' H' : Hp} {outs : List (Nat × OB)} {v : V} {r : RV} (E : EOk T G B Z H σ e) (E' : EOk T G B Z' H' σ (putA 0 e outs avs)) (own_ : ∀ i a, Own σ (putA 0 e outs avs) i a → H a ≠ none) (rr : ResOk T H Z' H' v r) : RRep T G Z' H' σ (putA 0 e outs avs) v r := by
  cases r with
  | d d => exact rr
  | o o =>
    obtain ⟨a, h, e1, e2, e3, e4, e5⟩ := rr
    exact ⟨a, h, e1, e2, e3, e4, E.gnone e5, fun i oi => own_ i a oi e5⟩
theorem own_there {outs : List (Nat × OB)} (E : EOk T G B Z H σ e) (hs : svs e avs = some as) (i : Nat) (a : Addr) (o : Own σ (putA 0 e outs avs) i a) : H a ≠ none := by
  obtain ⟨⟨b, o, q⟩, q2⟩ := o
  have : ∃ b o, e[i]? = some (.own b o) := by
    by_cases hi : i ∈ slots avs
    · obtain ⟨k, hk⟩ := mem_slots.mp hi
      obtain ⟨b', o', h2, _⟩ := ((svs_get hs).2 k).2 i hk
      exact ⟨b', o', h2⟩
    · rw [putA_out 0 e hi] at q
      exact ⟨b, o, q⟩
  obtain ⟨b', o', h2⟩ := this
  obtain ⟨a', h, e1, e2, _⟩ := E.own i b' o' h2
  rw [q2] at e1
  cases e1
  rw [e2]
  exact fun z => nomatch z
def Dfl (T : Tb) (dvs : List V) (dds : List D) : Prop := ∀ Z, Reps T Z dvs dds
theorem ArgsOk.dfl (A : ArgsOk T Z H vs as) {dvs : List V} {dds : List D} (d : Dfl T dvs dds) : ArgsOk T Z H (vs ++ dvs) (as ++ dds.map .val) ∧ ∀ k a, (k, a) ∈ lentA (vs ++ dvs) (as ++ dds.map .val) ↔ (k, a) ∈ lentA vs as := by
  have rd := d Z
  have av : ∀ (k : Nat) (w : SV), (as ++ dds.map SV.val)[k]? = some w → as[k]? = some w ∨ (as.length ≤ k ∧ ∃ d, dds[k - as.length]? = some d ∧ w = .val d) := fun k w q => by
    by_cases hk : k < as.length
    · rw [List.getElem?_append_left hk] at q; exact .inl q
    · rw [List.getElem?_append_right (by omega), List.getElem?_map] at q
      cases z : dds[k - as.length]? with
      | none => rw [z] at q; cases q
      | some d => rw [z] at q; cases q; exact .inr ⟨by omega, d, rfl, rfl⟩
  have left : ∀ (k : Nat) (v : V), k < as.length → (vs ++ dvs)[k]? = some v → vs[k]? = some v := fun k v hk q => by
    rw [List.getElem?_append_left (by rw [A.len]; exact hk)] at q; exact q
  have right : ∀ (k : Nat) (v : V), vs[k]? = some v → (vs ++ dvs)[k]? = some v := fun k v q => by
    rw [List.getElem?_append_left (List.getElem?_eq_some_iff.mp q).1]; exact q
  have mb : ∀ k a, (k, a) ∈ lentA (vs ++ dvs) (as ++ dds.map .val) ↔ (k, a) ∈ lentA vs as := fun k a => by
    rw [mem_lentA, mem_lentA]
    constructor
    · rintro ⟨⟨b, o, q⟩, q2⟩
      rcases av k _ q with q | ⟨_, _, _, z⟩
      · exact ⟨⟨b, o, q⟩, left k _ (List.getElem?_eq_some_iff.mp q).1 q2⟩
      · cases z
    · rintro ⟨⟨b, o, q⟩, q2⟩
      refine ⟨⟨b, o, ?_⟩, right k _ q2⟩
      rw [List.getElem?_append_left (List.getElem?_eq_some_iff.mp q).1]
      exact q
  refine ⟨⟨by rw [List.length_append, List.length_append, List.length_map, A.len, rd.length], fun k d q => ?_, fun k b o q => ?_, fun k l a n q1 q2 => A.dis k l a n ((mb k a).mp q1) ((mb l a).mp q2)⟩, mb⟩
  · rcases av k _ q with q | ⟨hk, d', q, z⟩
    · obtain ⟨v, h1, h2⟩ := A.val k d q
      exact ⟨v, right k v h1, h2⟩
    · cases z
      obtain ⟨v, h1, h2⟩ := rd.get q
      exact ⟨v, by rw [List.getElem?_append_right (by rw [A.len]; exact hk), A.len]; exact h1, h2⟩
  · rcases av k _ q with q | ⟨hk, d', q, z⟩
    · obtain ⟨eb, a, h, h1, h2⟩ := A.own k b o q
      exact ⟨eb, a, h, right k _ h1, h2⟩
    · cases z
theorem After.dfl {Z' H' : Hp} {outs : List (Nat × OB)} {vs' : List V} {as' : List SV} (A : After T Z H Z' H' vs' as' outs) (mb : ∀ k a, (k, a) ∈ lentA vs' as' ↔ (k, a) ∈ lentA vs as) : After T Z H Z' H' vs as outs :=
  ⟨A.zz, A.sub, fun a o q n => A.keep a o q fun i hi => n i ((mb i a).mp hi), A.nof, fun i a q => A.outs i a ((mb i a).mpr q)⟩
theorem call_sp {dvs : List V} {dds : List D} (dfl : Dfl T dvs dds) (E : EOk T G B Z H σ e) (r : AVOk T Z σ vs avs) (h : PR T W G B Z σ Q (callR φ dds avs e)) : sp T φ (vs ++ dvs) H Q (fun cls d H' => W cls d σ H') := by
  unfold callR at h
  cases hs : svs e avs with
  | none => rw [hs] at h; exact h.elim
  | some as =>
    rw [hs] at h
    dsimp only at h
    by_cases nd : (slots avs).Nodup
    · rw [if_pos nd] at h
      obtain ⟨A, mb⟩ := args_ok E r hs nd
      obtain ⟨A2, mb2⟩ := A.dfl dfl
      refine ⟨Z, as ++ dds.map .val, E.sub, A2, ?_⟩
      cases hφ : φ (as ++ dds.map .val) with
      | no => rw [hφ] at h; exact h.elim
      | ok r outs =>
        rw [hφ] at h
        intro v H' Z' Af rr
        have Af' := Af.dfl mb2
        have E' := back_ok E hs nd mb Af'
        exact h v H' Z' Af.zz E' (res_ok E E' (own_there E hs) rr)
      | ex x outs =>
        rw [hφ] at h
        intro c d H' Z' Af rr
        have Af' := Af.dfl mb2
        exact h c d H' Z' Af.zz (back_ok E hs nd mb Af') rr
    · rw [if_neg nd] at h; exact h.elim
end
end L2.S

set_option Elab.async false
set_option linter.all false
set_option maxRecDepth 100000
set_option maxHeartbeats 4000000
namespace L2.S
open PySem PySem.Spec PyProof.Rows
section
variable {X : Cx} {CX : CXT} {k : Nat} {f C : Addr} {fd : FuncData} {ps : List Str} {sp : Sp} {dvs : List V} {ds : List Value} {E : St → XK} {x m : Str} {p pos apos : Pos} {e o : Expr} {es : List Expr} {ta : TE} {t : TA}
theorem run_fnG {pins : List (Addr × Obj)} {σ : St} {H : Hp} {s : Shared} {Q : VK} {us : List Value} {vs : List V} {E : XK} (F : FnOk X.prog X.w X.K X.mg X.base CX k f fd ps sp) (hr : Room k X.A) (hb : Binds X.K fd ps ds) (hd : Vals dvs ds) (hx : PassesAt CX X σ E)
    (I : Inv X pins σ H s) (r : Vals vs us) (h : sp (vs ++ dvs) H Q E) : wpAny (model X.prog X.w) X.A (call (.ref f) us) (EP X pins σ Q) X.xe s := by
  have r2 : Vals (vs ++ dvs) (us ++ ds) := r.append hd
  have hl : (us ++ ds).length = ps.length := by rw [← r2.length]; exact F.len _ _ _ _ h
  refine wpAny_call (codeAny_mono (F.run X.A X.stack s H ⟨us, []⟩ (us ++ ds) (vs ++ dvs) Q E hr I.env0 (hb s us I.kIn hl) r2 h) fun r s' hq => ?_)
  cases r with
  | error e => exact hx pins H s e s' I hq
  | ok fl =>
    cases fl with
    | ret u => exact I.after hq
    | next => exact False.elim hq
    | brk => exact False.elim hq
    | cont => exact False.elim hq
theorem pe_callG (F : FnOk X.prog X.w X.K X.mg X.base CX k f fd ps sp) (hr : Room k X.A) (hg : Gl X x) (hm : X.mg x = some (.ref f)) (hk : PySem.W.keepIn X.K (.ref f) = true) (hb : Binds X.K fd ps ds) (hd : Vals dvs ds) (hx : ∀ σ, PassesAt CX X σ (E σ))
    (ha : PA X (e :: es) t) (hdb : (x == ("__debug__" : Str)) = false := by decide) (he : starEach (e :: es) X.env = (false, eval e X.env) :: starEach es X.env := by rfl) (hpl : (backTo pos (starEach es X.env)).any (·.1) = false := by rfl) :
    PE X (.Call (.Name x p) (e :: es) [] pos) (fun σ H Q => t σ H fun vs H1 => sp (vs ++ dvs) H1 Q (E σ)) := by
  refine ⟨fun pins s σ H Q I h => ?_⟩
  refine wpAny_Call_Name_kw (ld_glob I hg hm ?_ hdb)
  refine PySem.W.callWith_K (h₀ := X.base) I.ok.mod.kin hk (thn (ha.run pos pins s σ H _ I h) fun us s1 ⟨vs, H1, I1, r, q⟩ => ⟨I1.kIn, ?_⟩) he hpl
  exact run_fnG F hr hb hd (hx σ) I1 r q
theorem pe_callG0 (F : FnOk X.prog X.w X.K X.mg X.base CX k f fd ps sp) (hr : Room k X.A) (hg : Gl X x) (hm : X.mg x = some (.ref f)) (hk : PySem.W.keepIn X.K (.ref f) = true) (hb : Binds X.K fd ps ds) (hd : Vals dvs ds) (hx : ∀ σ, PassesAt CX X σ (E σ))
    (hdb : (x == ("__debug__" : Str)) = false := by decide) : PE X (.Call (.Name x p) [] [] pos) (fun σ H Q => sp ([] ++ dvs) H Q (E σ)) := by
  refine ⟨fun pins s σ H Q I h => ?_⟩
  refine wpAny_Call_Name_kw (ld_glob I hg hm ?_ hdb)
  exact PySem.W.callWith_K0 I.kIn hk (run_fnG (us := []) F hr hb hd (hx σ) I .nil h)
theorem pe_methG {pl : Sem Bool} (he : PE X o ta) (c : Cls X.K C) (hm : Meth X.K C m f) (F : FnOk X.prog X.w X.K X.mg X.base CX k f fd ps sp) (hr : Room k X.A) (hb : Binds X.K fd ps ds) (hd : Vals dvs ds) (hx : ∀ σ, PassesAt CX X σ (E σ)) (ha : PA X (e :: es) t)
    (hst : starEach (e :: es) X.env = (false, eval e X.env) :: starEach es X.env := by rfl) (hpl : (backTo pos (starEach es X.env)).any (·.1) = false := by rfl)
    (ht : eval (.Call (.Attribute o m apos) (e :: es) [] pos) X.env = (do
      let ov ← eval o X.env
      standAt apos.atName
      let (f, first) ← holding [ov] (getMethod ov m pl)
      callWith pos f first (backTo pos (starEach (e :: es) X.env)) (backToKw pos (keywordEach [] X.env))) := by rfl) :
    PE X (.Call (.Attribute o m apos) (e :: es) [] pos) (fun σ H Q => ta σ H fun x H1 => ∃ a dx fs, x = .ref a ∧ H1 a = some (.ins C dx fs) ∧ fs.lookup m = none ∧ t σ H1 fun vs H2 => sp (x :: (vs ++ dvs)) H2 Q (E σ)) := by
  refine ⟨fun pins s σ H Q I h => ?_⟩
  refine PySem.W.methodCall_KW (pl := pl) (thn (he.run pins s σ H _ I h) fun u s1 ⟨x, H1, I1, rx, a, dx, fs, ex, ea, l, q⟩ => ?_) ht
  subst ex
  obtain rfl : u = Value.ref a := rx
  refine getmeth_ok I1 ea c hm l ?_
  refine PySem.W.callWith_K (first := [.ref a]) (h₀ := X.base) I.ok.mod.kin hm.kp (thn (ha.run pos pins s1 σ H1 _ I1 q) fun us s2 ⟨vs, H2, I2, r, q2⟩ => ⟨I2.kIn, ?_⟩) hst hpl
  exact run_fnG (us := .ref a :: us) (vs := .ref a :: vs) F hr hb hd (hx σ) I2 (.cons rfl r) q2
theorem pe_methG0 {pl : Sem Bool} (he : PE X o ta) (c : Cls X.K C) (hm : Meth X.K C m f) (F : FnOk X.prog X.w X.K X.mg X.base CX k f fd ps sp) (hr : Room k X.A) (hb : Binds X.K fd ps ds) (hd : Vals dvs ds) (hx : ∀ σ, PassesAt CX X σ (E σ))
    (ht : eval (.Call (.Attribute o m apos) [] [] pos) X.env = (do
      let ov ← eval o X.env
      standAt apos.atName
      let (f, first) ← holding [ov] (getMethod ov m pl)
      callWith pos f first (backTo pos (starEach [] X.env)) (backToKw pos (keywordEach [] X.env))) := by rfl) :
    PE X (.Call (.Attribute o m apos) [] [] pos) (fun σ H Q => ta σ H fun x H1 => ∃ a dx fs, x = .ref a ∧ H1 a = some (.ins C dx fs) ∧ fs.lookup m = none ∧ sp (x :: ([] ++ dvs)) H1 Q (E σ)) := by
  refine ⟨fun pins s σ H Q I h => ?_⟩
  refine PySem.W.methodCall_KW (pl := pl) (thn (he.run pins s σ H _ I h) fun u s1 ⟨x, H1, I1, rx, a, dx, fs, ex, ea, l, q⟩ => ?_) ht
  subst ex
  obtain rfl : u = Value.ref a := rx
  refine getmeth_ok I1 ea c hm l ?_
  exact PySem.W.callWith_K0 (first := [.ref a]) I1.kIn hm.kp (run_fnG (us := [.ref a]) (vs := [.ref a]) F hr hb hd (hx σ) I1 (.cons rfl .nil) q)
theorem run_makeG {pins : List (Addr × Obj)} {σ : St} {H : Hp} {s : Shared} {Q : VK} {us : List Value} {vs : List V} {E : XK} (M : Mk X.K C f) (F : FnOk X.prog X.w X.K X.mg X.base (L2.CX X.prog X.w) k f fd ps sp) (hr : Room (k + 1) X.A) (hb : Binds X.K fd ps ds) (hd : Vals dvs ds)
    (hx : PassesAt (L2.CX X.prog X.w) X σ E) (I : Inv X pins σ H s) (r : Vals vs us)
    (h : ∀ x dx, H x = none → H dx = none → dx ≠ x → sp (.ref x :: (vs ++ dvs)) (upd (upd H dx (.own x)) x (.ins C dx [])) (fun v H2 => v = .non ∧ Q (.ref x) H2) E) :
    wpAny (model X.prog X.w) X.A (call (.ref C) us) (EP X pins σ Q) X.xe s := by
  have hq := h (s.heap.objs.size + 1) s.heap.objs.size (I.hok.fresh (Nat.le_succ _)) (I.hok.fresh (Nat.le_refl _)) (Nat.ne_of_lt (Nat.lt_succ_self _))
  have I2 := Inv.made (C := C) I
  have r2 : Vals (V.ref (s.heap.objs.size + 1) :: (vs ++ dvs)) (Value.ref (s.heap.objs.size + 1) :: (us ++ ds)) := .cons rfl (r.append hd)
  have hl : (Value.ref (s.heap.objs.size + 1) :: us ++ ds).length = ps.length := by
    have e := r2.length
    rw [F.len _ _ _ _ hq] at e
    exact e.symm
  refine wpAny_call (make_map (f := f) I.kIn M.makes M.init (beq_iff_eq.mp M.fn) (codeAny_mono (F.run _ X.stack _ _ ⟨Value.ref (s.heap.objs.size + 1) :: us, []⟩ (Value.ref (s.heap.objs.size + 1) :: (us ++ ds)) _ _ E (hr.make C us [])
    (I2.env0.make C us []) (hb _ (Value.ref (s.heap.objs.size + 1) :: us) I2.kIn hl) r2 hq) fun r s' hq' => ?_))
  cases r with
  | error e => exact hx pins _ _ e s' I2 hq'
  | ok fl =>
    cases fl with
    | ret u =>
      obtain ⟨v, H', I3, rv, ev, q3⟩ := I2.after hq'
      subst ev
      exact ⟨rv, ⟨V.ref (s.heap.objs.size + 1), H', I3, rfl, q3⟩⟩
    | next => exact False.elim hq'
    | brk => exact False.elim hq'
    | cont => exact False.elim hq'
theorem pe_makeG (M : Mk X.K C f) (F : FnOk X.prog X.w X.K X.mg X.base (L2.CX X.prog X.w) k f fd ps sp) (hr : Room (k + 1) X.A) (hg : Gl X x) (hm : X.mg x = some (.ref C)) (hb : Binds X.K fd ps ds) (hd : Vals dvs ds) (hx : ∀ σ, PassesAt (L2.CX X.prog X.w) X σ (E σ))
    (ha : PA X (e :: es) t) (hdb : (x == ("__debug__" : Str)) = false := by decide) (he : starEach (e :: es) X.env = (false, eval e X.env) :: starEach es X.env := by rfl) (hpl : (backTo pos (starEach es X.env)).any (·.1) = false := by rfl) :
    PE X (.Call (.Name x p) (e :: es) [] pos) (fun σ H Q => t σ H fun vs H1 => ∀ x dx, H1 x = none → H1 dx = none → dx ≠ x →
      sp (.ref x :: (vs ++ dvs)) (upd (upd H1 dx (.own x)) x (.ins C dx [])) (fun v H2 => v = .non ∧ Q (.ref x) H2) (E σ)) := by
  refine ⟨fun pins s σ H Q I h => ?_⟩
  refine wpAny_Call_Name_kw (ld_glob I hg hm ?_ hdb)
  refine PySem.W.callWith_K (h₀ := X.base) I.ok.mod.kin M.kp (thn (ha.run pos pins s σ H _ I h) fun us s1 ⟨vs, H1, I1, r, q⟩ => ⟨I1.kIn, ?_⟩) he hpl
  exact run_makeG M F hr hb hd (hx σ) I1 r q
end
structure FnC (P : Program) (w : World) (K : PySem.W.Frag) (mg : Str → Option Value) (base : Heap) (T : Tb) (k : Nat) (φ : Fn) (dds : List D) (f : Addr) : Prop where
  ex : ∃ fd ps dvs ds, FnOk P w K mg base (L2.CX P w) k f fd ps (sp T φ) ∧ Binds K fd ps ds ∧ Vals dvs ds ∧ Dfl T dvs dds
  kp : PySem.W.keepIn K (.ref f) = true
structure ClsF (K : PySem.W.Frag) (T : Tb) (c : Nat) : Prop where
  cl : Cls K (T.cl c)
  nf : ∀ f ∈ T.fl c, NoAttr K (T.cl c) f
  nd : (T.fl c).Nodup
  few : (T.fl c).length < 900
theorem zip_lookup {α : Type} : ∀ {ks : List Str} {vs : List α} {i : Nat} {f : Str} {v : α}, ks.Nodup → ks[i]? = some f → vs[i]? = some v → (ks.zip vs).lookup f = some v
  | [], _, _, _, _, _, h, _ => by simp at h
  | _ :: _, [], _, _, _, _, _, h => by simp at h
  | k :: ks, w :: vs, 0, f, v, _, h1, h2 => by
    simp at h1 h2
    subst h1; subst h2
    simp [List.lookup]
  | k :: ks, w :: vs, i + 1, f, v, nd, h1, h2 => by
    have nd' := List.nodup_cons.mp nd
    have h1' : ks[i]? = some f := by simpa using h1
    have ne : (f == k) = false := by
      rw [beq_eq_false_iff_ne]
      intro z
      exact nd'.1 (by rw [← z]; exact List.mem_of_getElem? h1')
    show (match f == k with | true => some w | false => (ks.zip vs).lookup f) = some v
    rw [ne]
    exact zip_lookup nd'.2 h1' (by simpa using h2)
theorem zip_none {α : Type} : ∀ {ks : List Str} {vs : List α} {f : Str}, f ∉ ks → (ks.zip vs).lookup f = none
  | [], _, _, _ => by simp
  | _ :: _, [], _, _ => by simp
  | k :: ks, w :: vs, f, h => by
    rw [List.mem_cons, not_or] at h
    show (match f == k with | true => some w | false => (ks.zip vs).lookup f) = none
    rw [beq_eq_false_iff_ne.mpr h.1]
    exact zip_none h.2
theorem putF_zip : ∀ {ks : List Str} {vs : List V} {f : Str} {v : V}, ks.Nodup → ks[vs.length]? = some f → putF f v (ks.zip vs) = ks.zip (vs ++ [v])
  | [], vs, f, v, _, h => by simp at h
  | k :: ks, [], f, v, _, h => by
    simp at h
    subst h
    cases ks <;> rfl
  | k :: ks, w :: vs, f, v, nd, h => by
    have nd' := List.nodup_cons.mp nd
    have h' : ks[vs.length]? = some f := by simpa using h
    have ne : ¬ k = f := fun z => nd'.1 (by rw [z]; exact List.mem_of_getElem? h')
    show (if k = f then (k, v) :: ks.zip vs else (k, w) :: putF f v (ks.zip vs)) = _
    rw [if_neg ne, putF_zip nd'.2 h']
    rfl
section
variable {X : Cx} {T : Tb} {W : WX} {a b c e : Expr} {es : List Expr} {f g : Env' → R} {fa : Env' → RA} {pos p apos : Pos} {k : Nat} {φ : Fn} {dds : List D} {x m : Str} {fx : Addr}
def cCall (φ : Fn) (dds : List D) (fa : Env' → RA) : Env' → R := fun env => (fa env).bind fun as e => callR φ dds as e
theorem se_call (F : FnC X.prog X.w X.K X.mg X.base T k φ dds fx) (hm : X.mg x = some (.ref fx)) (hr : Room k X.A) (tk : Takes X W) (ha : SA X T W (e :: es) fa) (hg : Gl X x := by rfl) (hdb : (x == ("__debug__" : Str)) = false := by decide)
    (he : starEach (e :: es) X.env = (false, eval e X.env) :: starEach es X.env := by rfl) (hpl : (backTo pos (starEach es X.env)).any (·.1) = false := by rfl) : SE X T W (.Call (.Name x p) (e :: es) [] pos) (cCall φ dds fa) := by
  obtain ⟨fd, ps, dvs, ds, F1, hb, hd, dfl⟩ := F.ex
  refine PE.weak (pe_callG F1 hr hg hm F.kp hb hd (fun σ => passAt tk σ) ha hdb he hpl) fun σ H Q ⟨G, B, Z, env, E, q⟩ => ?_
  exact useAR E q fun vs H1 Z1 e as s E1 r q1 => call_sp dfl E1 r q1
theorem se_call0 (F : FnC X.prog X.w X.K X.mg X.base T k φ dds fx) (hm : X.mg x = some (.ref fx)) (hr : Room k X.A) (tk : Takes X W) (hg : Gl X x := by rfl) (hdb : (x == ("__debug__" : Str)) = false := by decide) : SE X T W (.Call (.Name x p) [] [] pos) (cCall φ dds cA0) := by
  obtain ⟨fd, ps, dvs, ds, F1, hb, hd, dfl⟩ := F.ex
  refine PE.weak (pe_callG0 F1 hr hg hm F.kp hb hd (fun σ => passAt tk σ) hdb) fun σ H Q ⟨G, B, Z, env, E, q⟩ => ?_
  exact call_sp (vs := []) (avs := []) dfl E True.intro q
def cMeth (c : Nat) (φ : Fn) (dds : List D) (f : Env' → R) (fa : Env' → RA) : Env' → R := fun env => (f env).bind fun d e => match d with
  | .obj c' xs => if c' = c then (fa e).bind fun as e' => callR φ dds (.d (.obj c' xs) :: as) e' else .no
  | _ => .no
theorem meth_go {c : Nat} {m : Str} {t : TA} {dvs : List V} (CF : ClsF X.K T c) (hK : X.K = T.K) (hm : m ∉ T.fl c) (dfl : Dfl T dvs dds)
    (ht : ∀ {G B Z env σ H Q} {k : List AV → Env' → R} {P : List V → Hp → Prop}, EOk T G B Z H σ env → PR T W G B Z σ Q ((fa env).bind k) → (∀ vs H1 Z1 e as, Same Z Z1 → EOk T G B Z1 H1 σ e → AVOk T Z1 σ vs as → PR T W G B Z1 σ Q (k as e) → P vs H1) → t σ H P) (σ : St) (H : Hp) (Q : VK)
    (q : tX T W (cMeth c φ dds f fa) σ H Q) : tX T W f σ H fun x H1 => ∃ a dx fs, x = .ref a ∧ H1 a = some (.ins (T.cl c) dx fs) ∧ fs.lookup m = none ∧ t σ H1 fun vs H2 => sp T φ (x :: (vs ++ dvs)) H2 Q (WE W σ) := by
  obtain ⟨G, B, Z, env, E, q⟩ := q
  refine useR E q fun v H1 Z1 e d s E1 r q1 => ?_
  cases r with
  | @obj a dx vs c' ds h n rs =>
    dsimp only at q1
    by_cases hc : c' = c
    · subst hc
      rw [if_pos rfl] at q1
      refine ⟨a, dx, _, rfl, E1.sub _ _ h, zip_none hm, ht E1 q1 fun ws H2 Z2 e2 as s2 E2 r2 q2 => ?_⟩
      exact call_sp (vs := .ref a :: ws) (avs := .d (.obj c' ds) :: as) dfl E2 ⟨.obj (s2 _ _ h) n (rs.mono s2), r2⟩ q2
    · rw [if_neg hc] at q1; exact q1.elim
  | _ => exact q1.elim
theorem se_meth {c : Nat} (CF : ClsF X.K T c) (hK : X.K = T.K) (hm : m ∉ T.fl c) (hM : Meth X.K (T.cl c) m fx) (F : FnC X.prog X.w X.K X.mg X.base T k φ dds fx) (hr : Room k X.A) (tk : Takes X W) (ho : SE X T W a f) (ha : SA X T W (e :: es) fa)
    {pl : Sem Bool} (hst : starEach (e :: es) X.env = (false, eval e X.env) :: starEach es X.env := by rfl) (hpl : (backTo pos (starEach es X.env)).any (·.1) = false := by rfl)
    (ht : eval (.Call (.Attribute a m apos) (e :: es) [] pos) X.env = (do
      let ov ← eval a X.env
      standAt apos.atName
      let (f, first) ← holding [ov] (getMethod ov m pl)
      callWith pos f first (backTo pos (starEach (e :: es) X.env)) (backToKw pos (keywordEach [] X.env))) := by rfl) : SE X T W (.Call (.Attribute a m apos) (e :: es) [] pos) (cMeth c φ dds f fa) := by
  obtain ⟨fd, ps, dvs, ds, F1, hb, hd, dfl⟩ := F.ex
  exact PE.weak (pe_methG ho CF.cl hM F1 hr hb hd (fun σ => passAt tk σ) ha hst hpl ht) (meth_go CF hK hm dfl fun E q go => useAR E q go)
theorem se_meth0 {c : Nat} (CF : ClsF X.K T c) (hK : X.K = T.K) (hm : m ∉ T.fl c) (hM : Meth X.K (T.cl c) m fx) (F : FnC X.prog X.w X.K X.mg X.base T k φ dds fx) (hr : Room k X.A) (tk : Takes X W) (ho : SE X T W a f)
    {pl : Sem Bool} (ht : eval (.Call (.Attribute a m apos) [] [] pos) X.env = (do
      let ov ← eval a X.env
      standAt apos.atName
      let (f, first) ← holding [ov] (getMethod ov m pl)
      callWith pos f first (backTo pos (starEach [] X.env)) (backToKw pos (keywordEach [] X.env))) := by rfl) : SE X T W (.Call (.Attribute a m apos) [] [] pos) (cMeth c φ dds f cA0) := by
  obtain ⟨fd, ps, dvs, ds, F1, hb, hd, dfl⟩ := F.ex
  refine PE.weak (pe_methG0 ho CF.cl hM F1 hr hb hd (fun σ => passAt tk σ) ht) fun σ H Q q => ?_
  exact meth_go (t := fun σ H P => P [] H) (fa := cA0) CF hK hm dfl (fun E q go => go [] _ _ _ [] (Same.refl _) E True.intro q) σ H Q q

def makeR (c nf : Nat) (φ : Fn) (dds : List D) (avs : List AV) (e : Env') : R := match avD avs with
  | some ds => (match φ (.own true (.s c []) :: (ds.map .val ++ dds.map .val)) with
    | .ok (.d .non) outs => (match outs.lookup 0 with | some (.s c' xs) => if c' = c ∧ xs.length = nf then .ok (.d (.obj c xs)) e else .no | _ => .no)
    | .ok _ _ => .no
    | .ex x _ => .ex x e
    | .no => .no)
  | none => .no
def cMake (c nf : Nat) (φ : Fn) (dds : List D) (fa : Env' → RA) : Env' → R := fun env => (fa env).bind fun as e => makeR c nf φ dds as e
theorem make_sp {c nf : Nat} {G : Gd} {B : List (Nat × Addr)} {Z H : Hp} {σ : St} {e : Env'} {vs : List V} {avs : List AV} {dvs : List V} {Q : VK} (hl : (T.fl c).length = nf) (dfl : Dfl T dvs dds) (E : EOk T G B Z H σ e) (r : AVOk T Z σ vs avs) (h : PR T W G B Z σ Q (makeR c nf φ dds avs e))
    (x dx : Addr) (hx : H x = none) (hdx : H dx = none) (hne : dx ≠ x) : sp T φ (.ref x :: (vs ++ dvs)) (upd (upd H dx (.own x)) x (.ins (T.cl c) dx [])) (fun v H2 => v = .non ∧ Q (.ref x) H2) (WE W σ) := by
  unfold makeR at h
  cases hd : avD avs with
  | none => rw [hd] at h; exact h.elim
  | some ds =>
    rw [hd] at h
    dsimp only at h
    have rs := (r.reps hd).append (dfl Z)
    have hx' : upd H dx (.own x) x = none := by rw [upd_ne (fun z => hne z.symm)]; exact hx
    have Ea := (E.new hdx).new hx' (o := .ins (T.cl c) dx [])
    have el : ∀ (j : Nat) (w : SV), (ds.map SV.val ++ dds.map SV.val)[j]? = some w → ∃ d, (ds ++ dds)[j]? = some d ∧ w = .val d := fun j w q => by
      rw [← List.map_append, List.getElem?_map] at q
      cases z : (ds ++ dds)[j]? with
      | none => rw [z] at q; cases q
      | some d => rw [z] at q; cases q; exact ⟨d, rfl, rfl⟩
    have mb : ∀ i a, (i, a) ∈ lentA (V.ref x :: (vs ++ dvs)) (SV.own true (.s c []) :: (ds.map SV.val ++ dds.map SV.val)) → i = 0 ∧ a = x := fun i a q => by
      obtain ⟨⟨b, o, q1⟩, q2⟩ := mem_lentA.mp q
      cases i with
      | zero => simp at q2; exact ⟨rfl, q2.symm⟩
      | succ i =>
        obtain ⟨d, _, z⟩ := el i _ (by simpa using q1)
        cases z
    have A : ArgsOk T Z (upd (upd H dx (.own x)) x (.ins (T.cl c) dx [])) (V.ref x :: (vs ++ dvs)) (SV.own true (.s c []) :: (ds.map SV.val ++ dds.map SV.val)) := by
      refine ⟨?_, fun i d q => ?_, fun i b o q => ?_, fun i j a n q1 q2 => n ((mb i a q1).1.trans (mb j a q2).1.symm)⟩
      · have := rs.length
        rw [List.length_cons, List.length_cons, this, List.length_append, List.length_append, List.length_map, List.length_map]
      · cases i with
        | zero => simp at q
        | succ i =>
          obtain ⟨d', h1, z⟩ := el i _ (by simpa using q)
          cases z
          obtain ⟨v, k1, k2⟩ := rs.get h1
          exact ⟨v, by simpa using k1, k2⟩
      · cases i with
        | zero =>
          simp at q
          obtain ⟨rfl, rfl⟩ := q
          exact ⟨rfl, x, _, by simp, upd_same, ⟨dx, [], by simp, Nat.zero_le _, .nil⟩, E.znone hx⟩
        | succ i =>
          obtain ⟨d', h1, z⟩ := el i _ (by simpa using q)
          cases z
    refine ⟨Z, _, Ea.sub, A, ?_⟩
    have old : ∀ {H' Z' : Hp} {outs : List (Nat × OB)}, After T Z (upd (upd H dx (.own x)) x (.ins (T.cl c) dx [])) Z' H' (V.ref x :: (vs ++ dvs)) (SV.own true (.s c []) :: (ds.map SV.val ++ dds.map SV.val)) outs → EOk T G B Z' H' σ e := fun {H' Z' outs} Af => by
      have keepH : ∀ a o, H a = some o → H' a = some o := fun a o q => Af.keep a o (by rw [upd_ne (ne_of_none q hx), upd_ne (ne_of_none q hdx)]; exact q) fun i hi => by
        have := (mb i a hi).2
        rw [this, hx] at q
        cases q
      have nofH : ∀ a, H a ≠ none → Z a = none → Z' a = none := fun a h1 h2 => by
        cases q : H a with
        | none => exact (h1 q).elim
        | some o => exact Af.nof a (by rw [upd_ne (ne_of_none q hx), upd_ne (ne_of_none q hdx), q]; exact fun z => nomatch z) h2
      refine ⟨E.len, Af.sub, fun a h1 h2 => nofH a (fun z => h1 (E.gnone z)) (E.nof a h1 h2), fun a o q n => keepH a o (E.keep a o q n), fun i d q => ?_, fun i b o q => ?_, E.bor, E.dis⟩
      · obtain ⟨v, q1, q2⟩ := E.val i d q
        exact ⟨v, q1, q2.mono Af.zz⟩
      · obtain ⟨a, h', q1, q2, q3, q4, q5⟩ := E.own i b o q
        exact ⟨a, h', q1, keepH a h' q2, q3.mono Af.zz, nofH a (by rw [q2]; exact fun z => nomatch z) q4, q5⟩
    cases hφ : φ (.own true (.s c []) :: (ds.map .val ++ dds.map .val)) with
    | no => rw [hφ] at h; exact h.elim
    | ex y outs =>
      rw [hφ] at h
      intro cl d H' Z' Af rr
      exact h cl d H' Z' Af.zz (old Af) rr
    | ok r outs =>
      rw [hφ] at h
      cases r with
      | o o => exact h.elim
      | d d =>
        cases d with
        | non =>
          dsimp only at h
          intro v H' Z' Af rr
          cases rr
          obtain ⟨o, hh, k1, k2, k3, k4⟩ := Af.outs 0 x (mem_lentA.mpr ⟨⟨_, _, rfl⟩, rfl⟩)
          rw [k1] at h
          cases o with
          | l xs => exact h.elim
          | s c' xs =>
            dsimp only at h
            by_cases hc : c' = c ∧ xs.length = nf
            · rw [if_pos hc] at h
              obtain ⟨rfl, hn⟩ := hc
              obtain ⟨dx', ws, e1, e2, e3⟩ := k3
              subst e1
              have E' := old Af
              have nx : ∀ i, ¬ Own σ e i x := E.nown hx
              refine ⟨rfl, h _ H' (upd Z' x (.ins (T.cl c') dx' ((T.fl c').zip ws))) (Af.zz.trans (same_upd k4)) (E'.fix k2 nx k4 (E.gnone hx)) ?_⟩
              exact .obj upd_same (by rw [e3.length, hn, hl]) (e3.mono (same_upd k4))
            · rw [if_neg hc] at h; exact h.elim
        | _ => exact h.elim
theorem se_make {c nf : Nat} (hl : (T.fl c).length = nf) (M : Mk X.K (T.cl c) fx) (F : FnC X.prog X.w X.K X.mg X.base T k φ dds fx) (hm : X.mg x = some (.ref (T.cl c))) (hr : Room (k + 1) X.A) (tk : Takes X W) (ha : SA X T W (e :: es) fa) (hg : Gl X x := by rfl) (hdb : (x == ("__debug__" : Str)) = false := by decide)
    (he : starEach (e :: es) X.env = (false, eval e X.env) :: starEach es X.env := by rfl) (hpl : (backTo pos (starEach es X.env)).any (·.1) = false := by rfl) : SE X T W (.Call (.Name x p) (e :: es) [] pos) (cMake c nf φ dds fa) := by
  obtain ⟨fd, ps, dvs, ds, F1, hb, hd, dfl⟩ := F.ex
  refine PE.weak (pe_makeG M F1 hr hg hm hb hd (fun σ => passAt tk σ) ha hdb he hpl) fun σ H Q ⟨G, B, Z, env, E, q⟩ => ?_
  exact useAR E q fun vs H1 Z1 e as s E1 r q1 x dx h1 h2 h3 => make_sp hl dfl E1 r q1 x dx h1 h2 h3

def cFld (al : List (Nat × Nat)) (f : Env' → R) : Env' → R := fun env => (f env).bind fun d e => match d with
  | .obj c xs => (match al.lookup c with | some k => (match xs[k]? with | some y => .ok (.d y) e | none => .no) | none => .no)
  | _ => .no
def FldF (K : PySem.W.Frag) (T : Tb) (al : List (Nat × Nat)) (n : Str) : Prop := ∀ c k, al.lookup c = some k → ClsF K T c ∧ (T.fl c)[k]? = some n
theorem fldF_0 {K : PySem.W.Frag} {n : Str} : FldF K T [] n := fun c k h => by simp at h
theorem fldF_c {K : PySem.W.Frag} {al : List (Nat × Nat)} {n : Str} {c k : Nat} (CF : ClsF K T c) (r : FldF K T al n) (h : (T.fl c)[k]? = some n := by rfl) : FldF K T ((c, k) :: al) n := fun c' k' q => by
  rw [List.lookup_cons] at q
  cases z : c' == c with
  | true =>
    rw [z] at q
    cases q
    have := eq_of_beq z
    subst this
    exact ⟨CF, h⟩
  | false => rw [z] at q; exact r c' k' q
theorem se_fld {al : List (Nat × Nat)} {n : Str} (FF : FldF X.K T al n) (ha : SE X T W a f) (hb : attributeBase a n X.env (eval a X.env) = eval a X.env := by rfl) : SE X T W (.Attribute a n pos) (cFld al f) := by
  refine PE.weak (pe_fld ha hb) fun σ H Q ⟨G, B, Z, env, E, q⟩ => ?_
  refine useR E q fun v H1 Z1 e d s E1 r q1 => ?_
  cases r with
  | @obj p dx vs c ds h hn rs =>
    dsimp only at q1
    cases hk : al.lookup c with
    | none => rw [hk] at q1; exact q1.elim
    | some k =>
      rw [hk] at q1
      dsimp only at q1
      cases hy : ds[k]? with
      | none => rw [hy] at q1; exact q1.elim
      | some y =>
        rw [hy] at q1
        obtain ⟨CF, hf⟩ := FF c k hk
        obtain ⟨w, k1, k2⟩ := rs.get hy
        exact ⟨p, _, dx, _, w, rfl, E1.sub _ _ h, CF.cl, CF.nf n (List.mem_of_getElem? hf), zip_lookup CF.nd hf k1, q1 w H1 Z1 (Same.refl _) E1 k2⟩
  | _ => exact q1.elim
def cSfld (i c k : Nat) : Env' → R := fun e => match e[i]? with | some (.own true (.s c' xs)) => if c' = c then (match xs[k]? with | some y => .ok (.d y) e | none => .no) else .no | _ => .no
theorem se_sfld (i : Nat) {c k : Nat} {x n : Str} {p1 p2 : Pos} (CF : ClsF X.K T c) (hn : (T.fl c)[k]? = some n := by rfl) (hN : X.N[i]? = some x := by rfl) (hv : Vis X.env.scope x := by first | exact Or.inl rfl | exact Or.inr (Or.inl rfl) | exact Or.inr (Or.inr rfl)) (hd : (x == ("__debug__" : Str)) = false := by decide)
    (hcd : (x == ("__classdict__" : Str)) = false := by decide) (hb : attributeBase (.Name x p1) n X.env (eval (.Name x p1) X.env) = eval (.Name x p1) X.env := by rfl) : SE X T W (.Attribute (.Name x p1) n p2) (cSfld i c k) := by
  refine PE.weak (pe_fld (pe_var hN hv hd hcd) hb) fun σ H Q ⟨G, B, Z, env, E, q⟩ => ?_
  unfold cSfld at q
  split at q
  · rename_i c' xs h
    by_cases hc : c' = c
    · rw [if_pos hc] at q
      subst hc
      cases hy : xs[k]? with
      | none => rw [hy] at q; exact q.elim
      | some y =>
        rw [hy] at q
        obtain ⟨pa, ho, h1, h2, ⟨dx, vs, rfl, h4, h5⟩, h6, h7⟩ := E.own i true _ h
        obtain ⟨w, k1, k2⟩ := h5.get hy
        exact ⟨_, h1, pa, _, dx, _, w, rfl, h2, CF.cl, CF.nf n (List.mem_of_getElem? hn), zip_lookup CF.nd hn k1, q w H Z (Same.refl _) E k2⟩
    · rw [if_neg hc] at q; exact q.elim
  · exact q.elim
def sFld0 (i c k : Nat) (f : Env' → R) : Env' → RS := fun env => (f env).bindS fun d e => match e[i]? with
  | some (.own true (.s c' xs)) => if c' = c ∧ xs.length = k then .nx (e.set i (.own true (.s c (xs ++ [d])))) else .no
  | _ => .no
theorem EOk.mut {G : Gd} {B : List (Nat × Addr)} {Z H : Hp} {σ : St} {env : Env'} {i : Nat} {b : Bool} {o o' : OB} {pa : Addr} {h' : HO} (E : EOk T G B Z H σ env) (h : env[i]? = some (.own b o)) (hσ : σ[i]? = some (some (.ref pa))) (r : ORep T Z h' o') :
    EOk T G B Z (upd H pa h') σ (env.set i (.own b o')) := by
  have hi : i < env.length := (List.getElem?_eq_some_iff.mp h).1
  obtain ⟨a, ho, e1, e2, e3, e4, e5⟩ := E.own i b o h
  rw [hσ] at e1
  cases e1
  have own_ : ∀ j q, Own σ (env.set i (.own b o')) j q → Own σ env j q := fun j q ⟨⟨b1, o1, q1⟩, q2⟩ => by
    by_cases hj : i = j
    · subst hj; exact ⟨⟨b, o, h⟩, q2⟩
    · rw [List.getElem?_set_ne hj] at q1; exact ⟨⟨b1, o1, q1⟩, q2⟩
  refine ⟨by rw [List.length_set]; exact E.len, fun q u hq => ?_, E.nof, fun q u hq n => ?_, fun j d q => ?_, fun j b1 o1 q => ?_, fun j q hq => ?_, fun j l q n o1 o2 => E.dis j l q n (own_ j q o1) (own_ l q o2)⟩
  · rw [upd_ne (ne_of_none hq e4)]; exact E.sub q u hq
  · rw [upd_ne fun z => ?_]
    · exact E.keep q u hq n
    · subst z
      rcases e5 with ⟨_, z⟩ | ⟨_, z⟩
      · exact n i z
      · rw [hq] at z; cases z
  · by_cases hj : i = j
    · subst hj; rw [List.getElem?_set_self hi] at q; cases q
    · rw [List.getElem?_set_ne hj] at q; exact E.val j d q
  · by_cases hj : i = j
    · subst hj
      rw [List.getElem?_set_self hi] at q
      cases q
      exact ⟨pa, h', hσ, upd_same, r, e4, e5⟩
    · rw [List.getElem?_set_ne hj] at q
      obtain ⟨a1, h1, k1, k2, k3⟩ := E.own j b1 o1 q
      refine ⟨a1, h1, k1, ?_, k3⟩
      rw [upd_ne fun z => E.dis i j pa hj ⟨⟨_, _, h⟩, hσ⟩ ⟨⟨_, _, q⟩, by rw [← z]; exact k1⟩]
      exact k2
  · obtain ⟨⟨o1, q1⟩, q2⟩ := E.bor j q hq
    by_cases hj : i = j
    · subst hj
      rw [h] at q1
      cases q1
      exact ⟨⟨o', List.getElem?_set_self hi⟩, q2⟩
    · exact ⟨⟨o1, by rw [List.getElem?_set_ne hj]; exact q1⟩, q2⟩
theorem ss_fld0 (i : Nat) {c k : Nat} {x n : Str} {p1 p2 : Pos} (CF : ClsF X.K T c) (he : SE X T W e f) (hn : (T.fl c)[k]? = some n := by rfl) (hN : X.N[i]? = some x := by rfl) (hv : Vis X.env.scope x := by first | exact Or.inl rfl | exact Or.inr (Or.inl rfl) | exact Or.inr (Or.inr rfl)) (hd : (x == ("__debug__" : Str)) = false := by decide)
    (hcd : (x == ("__classdict__" : Str)) = false := by decide) (hs : swapsWith e (some (.Attribute (.Name x p1) n p2)) pos.line X.env = pure false := by rfl) : SS X T W (.Assign [.Attribute (.Name x p1) n p2] e pos) (sFld0 i c k f) := by
  refine PS.weak (ps_fld (pe_var hN hv hd hcd) he hs) fun K σ H ⟨G, B, Z, env, E, q⟩ => ?_
  refine useS E q fun v H1 Z1 e1 d s E1 r q1 => ?_
  cases h : e1[i]? with
  | none => rw [h] at q1; exact q1.elim
  | some w =>
    rw [h] at q1
    cases w with
    | un => exact q1.elim
    | val d => exact q1.elim
    | own b o =>
      cases b with
      | false => exact q1.elim
      | true =>
        cases o with
        | l xs => exact q1.elim
        | s c' xs =>
          dsimp only at q1
          by_cases hc : c' = c ∧ xs.length = k
          · rw [if_pos hc] at q1
            obtain ⟨rfl, hk⟩ := hc
            obtain ⟨pa, ho, h1, h2, ⟨dx, vs, rfl, h4, h5⟩, h6, h7⟩ := E1.own i true _ h
            have hvl : vs.length = k := by rw [h5.length]; exact hk
            have hlt : vs.length < (T.fl c').length := by rw [hvl]; exact (List.getElem?_eq_some_iff.mp hn).1
            have hput : putF n v ((T.fl c').zip vs) = (T.fl c').zip (vs ++ [v]) := putF_zip CF.nd (by rw [hvl]; exact hn)
            refine ⟨_, h1, pa, _, dx, _, rfl, h2, CF.cl, CF.nf n (List.mem_of_getElem? hn), ?_, ?_⟩
            · rw [List.length_zip]
              have := CF.few
              omega
            · rw [hput]
              exact q1 σ _ Z1 (Same.refl _) (E1.mut h h1 ⟨dx, vs ++ [v], rfl, by rw [List.length_append, List.length_singleton]; omega, h5.append (.cons r .nil)⟩)
          · rw [if_neg hc] at q1; exact q1.elim
end
end L2.S

set_option Elab.async false
set_option linter.all false
set_option maxRecDepth 100000
set_option maxHeartbeats 4000000
namespace L2.S
open PySem PySem.Spec PyProof.Rows TL
section
variable {X : Cx} {T : Tb} {W : WX} {a b c e : Expr} {es : List Expr} {f g : Env' → R} {fa : Env' → RA} {pos p apos : Pos}
def ixD : D → D → Option D
  | .tup xs, .int i => atI xs i
  | .lst xs, .int i => atI xs i
  | .ro xs, .int i => atI xs i
  | .str l, .int i => if l.length ≤ 16777216 then (atI l i).map fun c => .str [c] else none
  | _, _ => none
theorem reps_at {Z : Hp} {vs : List V} {ds : List D} {i : Int} {d : D} (r : Reps T Z vs ds) (h : atI ds i = some d) : ∃ v, atI vs i = some v ∧ Rep T Z v d := by
  unfold atI at h ⊢
  rw [r.length]
  cases q : ixN ds.length i with
  | none => rw [q] at h; cases h
  | some j =>
    rw [q] at h
    obtain ⟨v, h1, h2⟩ := r.get h
    exact ⟨v, h1, h2⟩
theorem ix_go (hT : X.K = T.K) {Z H : Hp} {x y : V} {dx dy d : D} {Q : VK} (s : Same Z H) (r1 : Rep T Z x dx) (r2 : Rep T Z y dy) (h : ixD dx dy = some d) (k : ∀ v, Rep T Z v d → Q v H) : rIx X.K x y H Q := by
  cases r2 with
  | int i =>
    cases r1 with
    | tup hq rs =>
      obtain ⟨v, h1, h2⟩ := reps_at rs h
      exact .inr (.inl ⟨_, _, i, v, rfl, rfl, by rw [hT]; exact sqt_mono s hq, h1, k v h2⟩)
    | lst hq rs =>
      obtain ⟨v, h1, h2⟩ := reps_at rs h
      exact .inl ⟨_, _, i, v, rfl, rfl, SqL.of (s _ _ hq), h1, k v h2⟩
    | ro hq rs =>
      obtain ⟨v, h1, h2⟩ := reps_at rs h
      exact .inl ⟨_, _, i, v, rfl, rfl, by rw [hT]; exact s.seq hq, h1, k v h2⟩
    | str l =>
      have h' : (if l.length ≤ 16777216 then (atI l i).map fun c => D.str [c] else none) = some d := h
      split at h'
      · rename_i hl
        cases q : atI l i with
        | none => rw [q] at h'; cases h'
        | some c =>
          rw [q] at h'
          cases h'
          exact .inr (.inr ⟨_, i, c, rfl, rfl, by rw [SZ_eq]; exact hl, q, k _ (.str [c])⟩)
      · cases h'
    | _ => cases h
  | _ => cases r1 <;> cases h
def cIx (f g : Env' → R) : Env' → R := two (fun x y e => match ixD x y with | some d => .ok (.d d) e | none => .no) f g
theorem se_ix (hT : X.K = T.K) (ha : SE X T W a f) (hb : SE X T W b g) (hs : PlainIx b := by exact fun _ _ => rfl) : SE X T W (.Subscript a b pos) (cIx f g) := by
  refine PE.weak (pe_ix ix_seq ha hb hs) fun σ H Q q => ?_
  have q' := two_tX q
  obtain ⟨G, B, Z, env, E, q2⟩ := q
  refine useR E q2 fun x H1 Z1 e1 dx s1 E1 r1 q3 => useR E1 q3 fun y H2 Z2 e2 dy s2 E2 r2 q4 => ?_
  dsimp only at q4
  cases h : ixD dx dy with
  | none => rw [h] at q4; exact q4.elim
  | some d =>
    rw [h] at q4
    exact ix_go hT E2.sub (r1.mono s2) r2 h fun v r => q4 v H2 Z2 (Same.refl _) E2 r
def withO (i : Nat) (env : Env') (r : R) : R := match env[i]? with | some (.own _ (.l _)) => r | _ => .no
theorem use_own {G : Gd} {B : List (Nat × Addr)} {Z H : Hp} {σ : St} {env : Env'} {i : Nat} {r : R} {Q : VK} (E : EOk T G B Z H σ env) (q : PR T W G B Z σ Q (withO i env r)) :
    ∃ pa b xs vs, env[i]? = some (.own b (.l xs)) ∧ σ[i]? = some (some (.ref pa)) ∧ H pa = some (.lst vs) ∧ Reps T Z vs xs ∧ PR T W G B Z σ Q r := by
  unfold withO at q
  split at q
  · rename_i b xs h
    obtain ⟨pa, ho, h1, h2, ⟨vs, rfl, h4⟩, _⟩ := E.own i b _ h
    exact ⟨pa, b, xs, vs, h, h1, h2, h4, q⟩
  · exact q.elim
def cIxO (i : Nat) (g : Env' → R) : Env' → R := fun env => withO i env ((g env).bind fun d e => match e[i]?, d with
  | some (.own _ (.l xs)), .int j => (match atI xs j with | some y => .ok (.d y) e | none => .no)
  | _, _ => .no)
theorem se_ixO (i : Nat) {x : Str} {p1 : Pos} (hb : SE X T W b g) (hN : X.N[i]? = some x := by rfl) (hv : Vis X.env.scope x := by first | exact Or.inl rfl | exact Or.inr (Or.inl rfl) | exact Or.inr (Or.inr rfl)) (hd : (x == ("__debug__" : Str)) = false := by decide)
    (hcd : (x == ("__classdict__" : Str)) = false := by decide) (hs : PlainIx b := by exact fun _ _ => rfl) : SE X T W (.Subscript (.Name x p1) b pos) (cIxO i g) := by
  refine PE.weak (pe_ix ix_list (pe_var hN hv hd hcd) hb hs) fun σ H Q ⟨G, B, Z, env, E, q⟩ => ?_
  obtain ⟨pa, b, xs, vs, h, h1, h2, h4, q⟩ := use_own E q
  refine ⟨_, h1, useR E q fun y H1 Z1 e1 dy s1 E1 r1 q1 => ?_⟩
  split at q1
  · rename_i _ _ b xs j h
    cases r1
    obtain ⟨pa', ho, k1, k2, ⟨vs, rfl, k4⟩, _⟩ := E1.own i b _ h
    rw [h1] at k1
    cases k1
    cases hy : atI xs j with
    | none => rw [hy] at q1; exact q1.elim
    | some y =>
      rw [hy] at q1
      obtain ⟨w, j1, j2⟩ := reps_at k4 hy
      exact ⟨_, _, _, w, rfl, rfl, SqL.of k2, j1, q1 w H1 Z1 (Same.refl _) E1 j2⟩
  · exact q1.elim

inductive RO where
  | ok (o : Option Int) (e : Env') | ex (x : Ex) (e : Env') | no
def PRO (T : Tb) (W : WX) (G : Gd) (B : List (Nat × Addr)) (Z : Hp) (σ : St) (Q : Option Int → Hp → Prop) : RO → Prop
  | .ok o e => ∀ H' Z', Same Z Z' → EOk T G B Z' H' σ e → Q o H'
  | .ex x e => ∀ cls d H' Z', Same Z Z' → EOk T G B Z' H' σ e → XRep T Z' H' cls d x → W cls d σ H'
  | .no => False
def tXO (T : Tb) (W : WX) (f : Env' → RO) : TO := fun σ H Q => ∃ G B Z env, EOk T G B Z H σ env ∧ PRO T W G B Z σ Q (f env)
def SO (X : Cx) (T : Tb) (W : WX) (e : Option Expr) (f : Env' → RO) : Prop := PO X e (tXO T W f)
theorem PO.weak {e : Option Expr} {t t' : TO} (h : PO X e t) (w : ∀ σ H Q, t' σ H Q → t σ H Q) : PO X e t' := ⟨fun pins s σ H Q I q => h.run pins s σ H Q I (w _ _ _ q)⟩
def o0 : Env' → RO := fun e => .ok none e
def oI (f : Env' → R) : Env' → RO := fun env => match f env with
  | .ok (.d (.int i)) e => .ok (some i) e
  | .ex x e => .ex x e
  | _ => .no
theorem so_0 : SO X T W none o0 := PO.weak po_none fun σ H Q ⟨G, B, Z, env, E, q⟩ => q H Z (Same.refl _) E
theorem so_i (h : SE X T W a f) : SO X T W (some a) (oI f) := by
  refine PO.weak (po_some h) fun σ H Q ⟨G, B, Z, env, E, q⟩ => ?_
  refine use (Same.refl _) E (fun r e hf v H' Z' s E' r' => ?_) (fun x e hf => ?_) (fun hf => ?_)
  · unfold oI at q
    rw [hf] at q
    cases r with
    | o o => exact q.elim
    | d d =>
      cases d with
      | int i => cases r'; exact ⟨i, rfl, q H' Z' s E'⟩
      | _ => exact q.elim
  · unfold oI at q
    rw [hf] at q
    exact q
  · unfold oI at q
    rw [hf] at q
    exact q.elim
def RO.bind (r : RO) (k : Option Int → Env' → R) : R := match r with
  | .ok o e => k o e
  | .ex x e => .ex x e
  | .no => .no
theorem useO {fo : Env' → RO} {G : Gd} {B : List (Nat × Addr)} {Z H : Hp} {σ : St} {env : Env'} {P : Option Int → Hp → Prop} {Q : VK} {k : Option Int → Env' → R} (E : EOk T G B Z H σ env) (h : PR T W G B Z σ Q ((fo env).bind k))
    (go : ∀ o H1 Z1 e, Same Z Z1 → EOk T G B Z1 H1 σ e → PR T W G B Z1 σ Q (k o e) → P o H1) : tXO T W fo σ H P := by
  refine ⟨G, B, Z, env, E, ?_⟩
  cases q : fo env with
  | ok o e =>
    rw [q] at h
    exact fun H' Z' s E' => go o H' Z' e s E' (PR.mono s (r := k o e) h)
  | ex x e => rw [q] at h; exact h
  | no => rw [q] at h; exact h.elim
def cut {α : Type} (xs : List α) (lo hi : Option Int) : List α := (xs.drop (HT.sIx xs.length 0 lo)).take (HT.sIx xs.length xs.length hi - HT.sIx xs.length 0 lo)
def slD : D → Option Int → Option Int → Option RV
  | .tup xs, lo, hi => if HT.sIx xs.length 0 lo = 0 ∧ HT.sIx xs.length xs.length hi = xs.length then none else some (.d (.tup (cut xs lo hi)))
  | .lst xs, lo, hi => some (.o (.l (cut xs lo hi)))
  | .ro xs, lo, hi => some (.o (.l (cut xs lo hi)))
  | .str l, lo, hi => if l.length ≤ 16777216 then some (.d (.str (cut l lo hi))) else none
  | _, _, _ => none
theorem cut_reps {Z : Hp} {vs : List V} {ds : List D} (r : Reps T Z vs ds) (lo hi : Option Int) : Reps T Z (cutV vs lo hi) (cut ds lo hi) := by
  unfold cutV cut
  rw [r.length]
  exact (r.drop _).take _
theorem sl_seq : SlR X (fun x lo hi H Q => rSlT X.K x lo hi H Q ∨ rSlL X.K x lo hi H Q ∨ rSlS x lo hi H Q) := sl_tup.or (sl_list.or sl_str)
theorem sl_go (hT : X.K = T.K) {G : Gd} {B : List (Nat × Addr)} {Z H : Hp} {σ : St} {env : Env'} {x : V} {d : D} {r : RV} {lo hi : Option Int} {Q : VK} (E : EOk T G B Z H σ env) (r1 : Rep T Z x d) (h : slD d lo hi = some r)
    (k : ∀ v H' Z', Same Z Z' → EOk T G B Z' H' σ env → RRep T G Z' H' σ env v r → Q v H') : rSlT X.K x lo hi H Q ∨ rSlL X.K x lo hi H Q ∨ rSlS x lo hi H Q := by
  cases r1 with
  | @tup a vs ds hq rs =>
    have h' : (if HT.sIx ds.length 0 lo = 0 ∧ HT.sIx ds.length ds.length hi = ds.length then none else some (RV.d (.tup (cut ds lo hi)))) = some r := h
    split at h'
    · cases h'
    · rename_i hw
      cases h'
      refine .inl ⟨_, _, rfl, by rw [hT]; exact sqt_mono E.sub hq, by rw [rs.length]; exact hw, fun p hp => ?_⟩
      obtain ⟨s, E', r'⟩ := new_tup E hp (cut_reps rs lo hi)
      exact k _ _ _ s E' r'
  | lst hq rs =>
    cases h
    refine .inr (.inl ⟨_, _, rfl, SqL.of (E.sub _ _ hq), fun p hp => ?_⟩)
    obtain ⟨E', r'⟩ := new_list E hp (cut_reps rs lo hi)
    exact k _ _ _ (Same.refl _) E' r'
  | ro hq rs =>
    cases h
    refine .inr (.inl ⟨_, _, rfl, by rw [hT]; exact E.sub.seq hq, fun p hp => ?_⟩)
    obtain ⟨E', r'⟩ := new_list E hp (cut_reps rs lo hi)
    exact k _ _ _ (Same.refl _) E' r'
  | str l =>
    have h' : (if l.length ≤ 16777216 then some (RV.d (.str (cut l lo hi))) else none) = some r := h
    split at h'
    · rename_i hl
      cases h'
      exact .inr (.inr ⟨_, rfl, by rw [SZ_eq]; exact hl, k _ H Z (Same.refl _) E (.str _)⟩)
    · cases h'
  | _ => cases h
def cSl (f : Env' → R) (lo hi : Env' → RO) : Env' → R := fun env => (f env).bind fun d e => (lo e).bind fun l e1 => (hi e1).bind fun u e2 => match slD d l u with | some r => .ok r e2 | none => .no
theorem se_sl {lo hi : Option Expr} {fl fh : Env' → RO} {p2 : Pos} (hT : X.K = T.K) (ha : SE X T W a f) (hl : SO X T W lo fl) (hh : SO X T W hi fh) : SE X T W (.Subscript a (.Slice lo hi none p2) pos) (cSl f fl fh) := by
  refine PE.weak (pe_slice sl_seq ha hl hh) fun σ H Q ⟨G, B, Z, env, E, q⟩ => ?_
  refine useR E q fun x H1 Z1 e1 d s1 E1 r1 q1 => useO E1 q1 fun l H2 Z2 e2 s2 E2 q2 => useO E2 q2 fun u H3 Z3 e3 s3 E3 q3 => ?_
  cases h : slD d l u with
  | none => rw [h] at q3; exact q3.elim
  | some r =>
    rw [h] at q3
    exact sl_go hT E3 (r1.mono (s2.trans s3)) h fun v H' Z' s E' rr => q3 v H' Z' s E' rr
def cSlO (i : Nat) (lo hi : Env' → RO) : Env' → R := fun env => withO i env ((lo env).bind fun l e1 => (hi e1).bind fun u e2 => match e2[i]? with | some (.own _ (.l xs)) => .ok (.o (.l (cut xs l u))) e2 | _ => .no)
theorem se_slO (i : Nat) {x : Str} {p1 p2 : Pos} {lo hi : Option Expr} {fl fh : Env' → RO} (hl : SO X T W lo fl) (hh : SO X T W hi fh) (hN : X.N[i]? = some x := by rfl) (hv : Vis X.env.scope x := by first | exact Or.inl rfl | exact Or.inr (Or.inl rfl) | exact Or.inr (Or.inr rfl)) (hd : (x == ("__debug__" : Str)) = false := by decide)
    (hcd : (x == ("__classdict__" : Str)) = false := by decide) : SE X T W (.Subscript (.Name x p1) (.Slice lo hi none p2) pos) (cSlO i fl fh) := by
  refine PE.weak (pe_slice sl_list (pe_var hN hv hd hcd) hl hh) fun σ H Q ⟨G, B, Z, env, E, q⟩ => ?_
  obtain ⟨pa, b, xs, vs, h, h1, h2, h4, q⟩ := use_own E q
  refine ⟨_, h1, useO E q fun l H2 Z2 e2 s2 E2 q2 => useO E2 q2 fun u H3 Z3 e3 s3 E3 q3 => ?_⟩
  split at q3
  · rename_i b xs h
    obtain ⟨pa', ho, k1, k2, ⟨vs, rfl, k4⟩, _⟩ := E3.own i b _ h
    rw [h1] at k1
    cases k1
    refine ⟨_, _, rfl, SqL.of k2, fun p hp => ?_⟩
    obtain ⟨E', r'⟩ := new_list E3 hp (cut_reps k4 l u)
    exact q3 _ _ _ (Same.refl _) E' r'
  · exact q3.elim
def cRv (f : Env' → R) : Env' → R := fun env => (f env).bind fun d e => match d with | .lst xs => .ok (.o (.l xs.reverse)) e | .ro xs => .ok (.o (.l xs.reverse)) e | _ => .no
theorem se_rv {k : Nat} {p1 p2 p3 : Pos} (hT : X.K = T.K) (ha : SE X T W a f) : SE X T W (.Subscript a (.Slice none none (some (.UnaryOp .USub (.Constant (.int 1) k p1) p2)) p3) pos) (cRv f) := by
  refine PE.weak (pe_revL ha) fun σ H Q ⟨G, B, Z, env, E, q⟩ => ?_
  refine useR E q fun x H1 Z1 e1 d s1 E1 r1 q1 => ?_
  cases r1 with
  | lst hq rs =>
    refine ⟨_, _, rfl, SqL.of (E1.sub _ _ hq), fun p hp => ?_⟩
    obtain ⟨E', r'⟩ := new_list E1 hp rs.reverse
    exact q1 _ _ _ (Same.refl _) E' r'
  | ro hq rs =>
    refine ⟨_, _, rfl, by rw [hT]; exact E1.sub.seq hq, fun p hp => ?_⟩
    obtain ⟨E', r'⟩ := new_list E1 hp rs.reverse
    exact q1 _ _ _ (Same.refl _) E' r'
  | _ => exact q1.elim

def BI (X : Cx) (T : Tb) (fv : Value) (p : List D → Option RV) : Prop :=
  ∀ (pins : List (Addr × Obj)) (s : Shared) (σ : St) (H : Hp) (xs : List V) (us : List Value) (Q : VK) (G : Gd) (B : List (Nat × Addr)) (Z : Hp) (env : Env') (ds : List D) (r : RV),
    Inv X pins σ H s → Vals xs us → EOk T G B Z H σ env → Reps T Z xs ds → p ds = some r →
    (∀ v H' Z', Same Z Z' → EOk T G B Z' H' σ env → RRep T G Z' H' σ env v r → Q v H') → wpAny (model X.prog X.w) X.A (call fv us) (EP X pins σ Q) X.xe s
theorem BI.of {fv : Value} {p : List D → Option RV} {r : List V → Hp → VK → Prop} (ho : CallR X fv r)
    (h : ∀ (G : Gd) (B : List (Nat × Addr)) (Z H : Hp) (σ : St) (env : Env') (xs : List V) (ds : List D) (w : RV) (Q : VK), EOk T G B Z H σ env → Reps T Z xs ds → p ds = some w →
      (∀ v H' Z', Same Z Z' → EOk T G B Z' H' σ env → RRep T G Z' H' σ env v w → Q v H') → r xs H Q) : BI X T fv p :=
  fun pins s σ H xs us Q G B Z env ds w I rv E rs e c => ho pins s σ H xs us Q I rv (h G B Z H σ env xs ds w Q E rs e c)
def orB (p q : List D → Option RV) : List D → Option RV := fun x => match p x with | some r => some r | none => q x
theorem BI.or {fv : Value} {p q : List D → Option RV} (h : BI X T fv p) (k : BI X T fv q) : BI X T fv (orB p q) := by
  intro pins s σ H xs us Q G B Z env ds r I rv E rs e c
  unfold orB at e
  cases z : p ds with
  | some w =>
    rw [z] at e; cases e
    exact h pins s σ H xs us Q G B Z env ds r I rv E rs z c
  | none =>
    rw [z] at e
    exact k pins s σ H xs us Q G B Z env ds r I rv E rs e c
def cBi (p : List D → Option RV) (fa : Env' → RA) : Env' → R := fun env => (fa env).bind fun as e => match avD as with | some ds => (match p ds with | some r => .ok r e | none => .no) | none => .no
theorem bi_go {fv : Value} {pp : List D → Option RV} (hb : BI X T fv pp) {pins : List (Addr × Obj)} {s : Shared} {σ : St} {H : Hp} {Q : VK} {vs : List V} {us : List Value} (I : Inv X pins σ H s) (rv : Vals vs us)
    (h : ∃ G B Z env as, EOk T G B Z H σ env ∧ AVOk T Z σ vs as ∧ PR T W G B Z σ Q (match avD as with | some ds => (match pp ds with | some r => .ok r env | none => .no) | none => .no)) : wpAny (model X.prog X.w) X.A (call fv us) (EP X pins σ Q) X.xe s := by
  obtain ⟨G, B, Z, env, as, E, r, q⟩ := h
  cases hd : avD as with
  | none => rw [hd] at q; exact q.elim
  | some ds =>
    rw [hd] at q
    dsimp only at q
    cases hp : pp ds with
    | none => rw [hp] at q; exact q.elim
    | some w =>
      rw [hp] at q
      exact hb pins s σ H vs us Q G B Z env ds w I rv E (r.reps hd) hp q
theorem se_bif {x : Str} {id : String} {pp : List D → Option RV} (hb : BI X T (.builtin id) pp) (hm : X.mg x = none) (ha : SA X T W (e :: es) fa) (hg : Gl X x := by rfl) (hv : bootBuiltins x = some (.builtin id) := by decide +kernel) (hn : x ≠ "__name__" := by decide) (hdb : (x == ("__debug__" : Str)) = false := by decide)
    (he : starEach (e :: es) X.env = (false, eval e X.env) :: starEach es X.env := by rfl) (hpl : (backTo pos (starEach es X.env)).any (·.1) = false := by rfl) : SE X T W (.Call (.Name x p) (e :: es) [] pos) (cBi pp fa) := by
  refine ⟨fun pins s σ H Q I ⟨G, B, Z, env, E, q⟩ => ?_⟩
  refine wpAny_Call_Name_kw (ld_blt I hg hm hv ?_ hn hdb)
  have key : tXA T W fa σ H fun vs H1 => ∃ G B Z env as, EOk T G B Z H1 σ env ∧ AVOk T Z σ vs as ∧ PR T W G B Z σ Q (match avD as with | some ds => (match pp ds with | some r => .ok r env | none => .no) | none => .no) :=
    useAR E q fun vs H1 Z1 e as s E1 r q1 => ⟨G, B, Z1, e, as, E1, r, q1⟩
  exact PyProof.Rows.callWith_builtin1 (thn (ha.run pos pins s σ H _ I key) fun us s1 ⟨vs, H1, I1, r1, q1⟩ => bi_go hb I1 r1 q1) he hpl
theorem se_bit {x : Str} {id : String} {pp : List D → Option RV} (hb : BI X T (.type id) pp) (hm : X.mg x = none) (ha : SA X T W (e :: es) fa) (hg : Gl X x := by rfl) (hv : bootBuiltins x = some (.type id) := by decide +kernel) (hn : x ≠ "__name__" := by decide) (hdb : (x == ("__debug__" : Str)) = false := by decide)
    (he : starEach (e :: es) X.env = (false, eval e X.env) :: starEach es X.env := by rfl) (hpl : (backTo pos (starEach es X.env)).any (·.1) = false := by rfl) : SE X T W (.Call (.Name x p) (e :: es) [] pos) (cBi pp fa) := by
  refine ⟨fun pins s σ H Q I ⟨G, B, Z, env, E, q⟩ => ?_⟩
  refine wpAny_Call_Name_kw (ld_blt I hg hm hv ?_ hn hdb)
  have key : tXA T W fa σ H fun vs H1 => ∃ G B Z env as, EOk T G B Z H1 σ env ∧ AVOk T Z σ vs as ∧ PR T W G B Z σ Q (match avD as with | some ds => (match pp ds with | some r => .ok r env | none => .no) | none => .no) :=
    useAR E q fun vs H1 Z1 e as s E1 r q1 => ⟨G, B, Z1, e, as, E1, r, q1⟩
  exact PyProof.Rows.callWith_type1 (thn (ha.run pos pins s σ H _ I key) fun us s1 ⟨vs, H1, I1, r1, q1⟩ => bi_go hb I1 r1 q1) he hpl
theorem se_bim {x : Str} {id : String} {pp : List D → Option RV} (hb : BI X T (.builtin id) pp) (hm : X.mg x = some (.builtin id)) (ha : SA X T W (e :: es) fa) (hg : Gl X x := by rfl) (hdb : (x == ("__debug__" : Str)) = false := by decide)
    (he : starEach (e :: es) X.env = (false, eval e X.env) :: starEach es X.env := by rfl) (hpl : (backTo pos (starEach es X.env)).any (·.1) = false := by rfl) : SE X T W (.Call (.Name x p) (e :: es) [] pos) (cBi pp fa) := by
  refine ⟨fun pins s σ H Q I ⟨G, B, Z, env, E, q⟩ => ?_⟩
  refine wpAny_Call_Name_kw (ld_glob I hg hm ?_ hdb)
  have key : tXA T W fa σ H fun vs H1 => ∃ G B Z env as, EOk T G B Z H1 σ env ∧ AVOk T Z σ vs as ∧ PR T W G B Z σ Q (match avD as with | some ds => (match pp ds with | some r => .ok r env | none => .no) | none => .no) :=
    useAR E q fun vs H1 Z1 e as s E1 r q1 => ⟨G, B, Z1, e, as, E1, r, q1⟩
  exact PyProof.Rows.callWith_builtin1 (thn (ha.run pos pins s σ H _ I key) fun us s1 ⟨vs, H1, I1, r1, q1⟩ => bi_go hb I1 r1 q1) he hpl
def bLen : List D → Option RV
  | [.str l] => if l.length ≤ 16777216 then some (.d (.int l.length)) else none
  | [.tup xs] => some (.d (.int xs.length))
  | [.lst xs] => some (.d (.int xs.length))
  | [.ro xs] => some (.d (.int xs.length))
  | _ => none
theorem Reps.one {Z : Hp} {xs : List V} {d : D} (r : Reps T Z xs [d]) : ∃ x, xs = [x] ∧ Rep T Z x d := by
  cases r with
  | cons h r => cases r; exact ⟨_, rfl, h⟩
theorem Reps.two {Z : Hp} {xs : List V} {d d' : D} (r : Reps T Z xs [d, d']) : ∃ x y, xs = [x, y] ∧ Rep T Z x d ∧ Rep T Z y d' := by
  cases r with
  | cons h r => obtain ⟨y, e, h2⟩ := Reps.one r; subst e; exact ⟨_, _, rfl, h, h2⟩
theorem b_len (hT : X.K = T.K) : BI X T (.builtin "len") bLen := BI.of call_len fun G B Z H σ env xs ds w Q E rs e c => by
  unfold bLen at e
  split at e
  · split at e
    · rename_i l hl
      cases e
      obtain ⟨x, rfl, r⟩ := rs.one
      cases r
      exact ⟨_, l.length, rfl, ⟨by rw [SZ_eq]; exact hl, rfl⟩, c _ H Z (Same.refl _) E (.int _)⟩
    · cases e
  · cases e
    obtain ⟨x, rfl, r⟩ := rs.one
    cases r with
    | tup hq rr => exact ⟨_, _, rfl, .inr ⟨_, by rw [hT]; exact sqt_mono E.sub hq, rr.length.symm⟩, c _ H Z (Same.refl _) E (.int _)⟩
  · cases e
    obtain ⟨x, rfl, r⟩ := rs.one
    cases r with
    | lst hq rr => exact ⟨_, _, rfl, .inl ⟨_, SqL.of (E.sub _ _ hq), rr.length.symm⟩, c _ H Z (Same.refl _) E (.int _)⟩
  · cases e
    obtain ⟨x, rfl, r⟩ := rs.one
    cases r with
    | ro hq rr => exact ⟨_, _, rfl, .inl ⟨_, by rw [hT]; exact E.sub.seq hq, rr.length.symm⟩, c _ H Z (Same.refl _) E (.int _)⟩
  · cases e
def bInt : List D → Option RV
  | [.int i] => some (.d (.int i))
  | [.bl b] => some (.d (.int (if b then 1 else 0)))
  | _ => none
theorem b_int : BI X T (.type "int") bInt := BI.of call_int1 fun G B Z H σ env xs ds w Q E rs e c => by
  unfold bInt at e
  split at e
  · cases e
    obtain ⟨x, rfl, r⟩ := rs.one
    cases r
    exact .inl ⟨_, rfl, c _ H Z (Same.refl _) E (.int _)⟩
  · cases e
    obtain ⟨x, rfl, r⟩ := rs.one
    cases r
    exact .inr ⟨_, rfl, c _ H Z (Same.refl _) E (.int _)⟩
  · cases e
def bAbs : List D → Option RV
  | [.int i] => some (.d (.int (if i < 0 then -i else i)))
  | _ => none
theorem b_abs : BI X T (.builtin "abs") bAbs := BI.of call_abs fun G B Z H σ env xs ds w Q E rs e c => by
  unfold bAbs at e
  split at e
  · cases e
    obtain ⟨x, rfl, r⟩ := rs.one
    cases r
    exact ⟨_, rfl, c _ H Z (Same.refl _) E (.int _)⟩
  · cases e
def bGcd : List D → Option RV
  | [.int i, .int j] => some (.d (.int ((Nat.gcd i.natAbs j.natAbs : Nat) : Int)))
  | _ => none
theorem b_gcd : BI X T (.builtin "math.gcd") bGcd := BI.of cr_gcd fun G B Z H σ env xs ds w Q E rs e c => by
  unfold bGcd at e
  split at e
  · cases e
    obtain ⟨x, y, rfl, r, r2⟩ := rs.two
    cases r
    cases r2
    exact ⟨_, _, rfl, c _ H Z (Same.refl _) E (.int _)⟩
  · cases e
def bTup : List D → Option RV
  | [.tup xs] => some (.d (.tup xs))
  | [.lst xs] => some (.d (.tup xs))
  | [.ro xs] => some (.d (.tup xs))
  | _ => none
theorem b_tup (hT : X.K = T.K) : BI X T (.type "tuple") bTup := BI.of call_tuple_of fun G B Z H σ env xs ds w Q E rs e c => by
  unfold bTup at e
  split at e
  · cases e
    obtain ⟨x, rfl, r⟩ := rs.one
    cases r with
    | tup hq rr => exact ⟨_, _, rfl, .inr ⟨by rw [hT]; exact sqt_mono E.sub hq, c _ H Z (Same.refl _) E (.tup hq rr)⟩⟩
  · cases e
    obtain ⟨x, rfl, r⟩ := rs.one
    cases r with
    | lst hq rr =>
      refine ⟨_, _, rfl, .inl ⟨SqL.of (E.sub _ _ hq), fun p hp => ?_⟩⟩
      obtain ⟨s, E', r'⟩ := new_tup E hp rr
      exact c _ _ _ s E' r'
  · cases e
    obtain ⟨x, rfl, r⟩ := rs.one
    cases r with
    | ro hq rr =>
      refine ⟨_, _, rfl, .inl ⟨by rw [hT]; exact E.sub.seq hq, fun p hp => ?_⟩⟩
      obtain ⟨s, E', r'⟩ := new_tup E hp rr
      exact c _ _ _ s E' r'
  · cases e
def bLst : List D → Option RV
  | [.tup xs] => some (.o (.l xs))
  | [.lst xs] => some (.o (.l xs))
  | [.ro xs] => some (.o (.l xs))
  | _ => none
theorem b_lst (hT : X.K = T.K) : BI X T (.type "list") bLst := BI.of call_list_of fun G B Z H σ env xs ds w Q E rs e c => by
  unfold bLst at e
  split at e
  · cases e
    obtain ⟨x, rfl, r⟩ := rs.one
    cases r with
    | tup hq rr =>
      refine ⟨_, _, rfl, .inr (by rw [hT]; exact sqt_mono E.sub hq), fun p hp => ?_⟩
      obtain ⟨E', r'⟩ := new_list E hp rr
      exact c _ _ _ (Same.refl _) E' r'
  · cases e
    obtain ⟨x, rfl, r⟩ := rs.one
    cases r with
    | lst hq rr =>
      refine ⟨_, _, rfl, .inl (SqL.of (E.sub _ _ hq)), fun p hp => ?_⟩
      obtain ⟨E', r'⟩ := new_list E hp rr
      exact c _ _ _ (Same.refl _) E' r'
  · cases e
    obtain ⟨x, rfl, r⟩ := rs.one
    cases r with
    | ro hq rr =>
      refine ⟨_, _, rfl, .inl (by rw [hT]; exact E.sub.seq hq), fun p hp => ?_⟩
      obtain ⟨E', r'⟩ := new_list E hp rr
      exact c _ _ _ (Same.refl _) E' r'
  · cases e
def codes (s : String) : List Nat := s.toList.map Char.toNat
def bStr : List D → Option RV
  | [.int i] => if i.natAbs.log2 < 1920 then some (.d (.str (codes (toString i)))) else none
  | _ => none
theorem b_str : BI X T (.type "str") bStr := BI.of call_str_int fun G B Z H σ env xs ds w Q E rs e c => by
  unfold bStr at e
  split at e
  · split at e
    · rename_i i hi
      cases e
      obtain ⟨x, rfl, r⟩ := rs.one
      cases r
      refine ⟨_, rfl, hi, ?_⟩
      have : (Str.ofString (toString i)) = ⟨(codes (toString i)).toArray⟩ := ext_tl (by rw [tl_ofString]; rfl)
      show Q (.str (Str.ofString (toString i))) H
      rw [this]
      exact c _ H Z (Same.refl _) E (.str _)
    · cases e
  · cases e
def cLenO (i : Nat) : Env' → R := fun e => match e[i]? with | some (.own _ (.l xs)) => .ok (.d (.int xs.length)) e | _ => .no
theorem se_lenO (i : Nat) {x : Str} {p1 : Pos} (hm : X.mg "len" = none) (hN : X.N[i]? = some x := by rfl) (hv : Vis X.env.scope x := by first | exact Or.inl rfl | exact Or.inr (Or.inl rfl) | exact Or.inr (Or.inr rfl)) (hg : Gl X "len" := by rfl) (hd : (x == ("__debug__" : Str)) = false := by decide)
    (hcd : (x == ("__classdict__" : Str)) = false := by decide) (he : starEach [.Name x p1] X.env = (false, eval (.Name x p1) X.env) :: starEach [] X.env := by rfl) : SE X T W (.Call (.Name "len" p) [.Name x p1] [] pos) (cLenO i) := by
  refine PE.weak (pe_callB call_len_seq hg hm PySem.boot_len (pa_cons (pe_var hN hv hd hcd) pa_nil he) (he := he)) fun σ H Q ⟨G, B, Z, env, E, q⟩ => ?_
  unfold cLenO at q
  split at q
  · rename_i b xs h
    obtain ⟨pa, ho, k1, k2, ⟨vs, rfl, k4⟩, _⟩ := E.own i b _ h
    refine ⟨_, k1, pa, vs, rfl, .inl (SqL.of k2), ?_⟩
    rw [k4.length]
    exact q _ H Z (Same.refl _) E (.int _)
  · exact q.elim

def cApp (i : Nat) (f : Env' → R) : Env' → R := fun env => withO i env ((f env).bind fun d e => match e[i]? with
  | some (.own b (.l xs)) => if xs.length < 16777216 then .ok (.d .non) (e.set i (.own b (.l (xs ++ [d])))) else .no
  | _ => .no)
theorem se_app (i : Nat) {x : Str} {p1 ap : Pos} (hf : SE X T W e f) (hN : X.N[i]? = some x := by rfl) (hv : Vis X.env.scope x := by first | exact Or.inl rfl | exact Or.inr (Or.inl rfl) | exact Or.inr (Or.inr rfl)) (hd : (x == ("__debug__" : Str)) = false := by decide)
    (hcd : (x == ("__classdict__" : Str)) = false := by decide)
    (hbase : attributeBase (.Name x p1) "append" X.env (eval (.Name x p1) X.env) = eval (.Name x p1) X.env := by rfl)
    (hfew : ((backTo pos (starEach [e] X.env)).all (fun x => !x.1) && (backToKw pos (keywordEach [] X.env)).all (fun x => x.1.isSome)
      && decide ([e].length + ([] : List Keyword).length + (if ([] : List Keyword).isEmpty then 0 else 1) < 30)) = true := by rfl)
    (hline : (ap.endLine == pos.line) = true := by rfl) (hs : starEach [e] X.env = (false, eval e X.env) :: starEach [] X.env := by rfl) :
    SE X T W (.Call (.Attribute (.Name x p1) "append" ap) [e] [] pos) (cApp i f) := by
  refine PE.weak (pe_bm PySem.F.plainAttrs_list PySem.F.slot_list_append PySem.F.type_list_append mt_append (pe_var hN hv hd hcd) (pa_cons hf pa_nil hs) hbase hfew hline hs) fun σ H Q ⟨G, B, Z, env, E, q⟩ => ?_
  obtain ⟨pa, b, xs, vs, h, h1, h2, h4, q⟩ := use_own E q
  refine ⟨_, h1, .inl ⟨rfl, _, SqL.of h2⟩, useR E q fun v H1 Z1 e1 d s1 E1 r1 q1 => ?_⟩
  split at q1
  · rename_i b xs h
    obtain ⟨pa', ho, k1, k2, ⟨vs, rfl, k4⟩, _⟩ := E1.own i b _ h
    rw [h1] at k1
    cases k1
    by_cases hl : xs.length < 16777216
    · rw [if_pos hl] at q1
      refine ⟨_, vs, v, rfl, rfl, k2, by rw [k4.length, SZ_eq]; exact hl, ?_⟩
      exact q1 _ _ Z1 (Same.refl _) (E1.mut h h1 ⟨vs ++ [v], rfl, k4.append (.cons r1 .nil)⟩) .non
    · rw [if_neg hl] at q1; exact q1.elim
  · exact q1.elim
def sSub (i : Nat) (fv fi : Env' → R) : Env' → RS := fun env => (fv env).bindS fun d e => match e[i]? with
  | some (.own _ (.l _)) => (fi e).bindS fun j e1 => (match e1[i]?, j with
    | some (.own b (.l xs)), .int k => (match ixN xs.length k with | some j => .nx (e1.set i (.own b (.l (xs.set j d)))) | none => .no)
    | _, _ => .no)
  | _ => .no
theorem ss_sub (i : Nat) {x : Str} {p1 p2 : Pos} {ei : Expr} {fi : Env' → R} (hf : SE X T W e f) (hi : SE X T W ei fi) (hN : X.N[i]? = some x := by rfl) (hv : Vis X.env.scope x := by first | exact Or.inl rfl | exact Or.inr (Or.inl rfl) | exact Or.inr (Or.inr rfl)) (hd : (x == ("__debug__" : Str)) = false := by decide)
    (hcd : (x == ("__classdict__" : Str)) = false := by decide)
    (ha : ∀ v, assign (.Subscript (.Name x p1) ei p2) X.env v = (do
      let ov ← holding [v] (eval (.Name x p1) X.env)
      let iv ← holding [v, ov] (eval ei X.env)
      standAt p2
      holding [v, ov, iv] (setItem ov iv v)
      release [v, ov, iv] []) := by intro _; rfl)
    (hs : swapsWithSole [.Subscript (.Name x p1) ei p2] e pos.line X.env = pure false := by rfl) (hw : swappedStores [.Subscript (.Name x p1) ei p2] e X.env = pure none := by rfl)
    (h1 : (assignEach [.Subscript (.Name x p1) ei p2] X.env).map (·.2) = [assign (.Subscript (.Name x p1) ei p2) X.env] := by rfl) : SS X T W (.Assign [.Subscript (.Name x p1) ei p2] e pos) (sSub i f fi) := by
  refine PS.weak (ps_asg hf (pg_sub (pe_var hN hv hd hcd) hi set_list ha) hs hw h1) fun K σ H ⟨G, B, Z, env, E, q⟩ => ?_
  refine useS E q fun v H1 Z1 e1 d s1 E1 r1 q1 => ?_
  split at q1
  · rename_i b xs h
    obtain ⟨pa, ho, k1, k2, ⟨vs, rfl, k4⟩, _⟩ := E1.own i b _ h
    refine ⟨_, k1, useS E1 q1 fun w H2 Z2 e2 j s2 E2 r2 q2 => ?_⟩
    split at q2
    · rename_i b' xs' k h'
      cases r2
      obtain ⟨pa', ho', j1, j2, ⟨vs', rfl, j4⟩, _⟩ := E2.own i b' _ h'
      rw [k1] at j1
      cases j1
      cases hk : ixN xs'.length k with
      | none => rw [hk] at q2; exact q2.elim
      | some jj =>
        rw [hk] at q2
        exact ⟨_, vs', k, jj, rfl, rfl, j2, by rw [j4.length]; exact hk, q2 σ _ Z2 (Same.refl _) (E2.mut h' k1 ⟨_, rfl, j4.set (r1.mono s2) jj⟩)⟩
    · exact q2.elim
  · exact q1.elim
def cNeg (f : Env' → R) : Env' → R := fun env => (f env).bind fun d e => match d with | .int i => .ok (.d (.int (-i))) e | _ => .no
theorem se_neg (ha : SE X T W a f) : SE X T W (.UnaryOp .USub a pos) (cNeg f) := by
  refine PE.weak (pe_un un_neg ha) fun σ H Q ⟨G, B, Z, env, E, q⟩ => ?_
  refine useR E q fun v H1 Z1 e d s E1 r q1 => ?_
  cases r with
  | int i => exact ⟨i, rfl, q1 _ H1 Z1 (Same.refl _) E1 (.int _)⟩
  | _ => exact q1.elim
theorem se_glob {x : Str} {d : D} {v : V} {u : Value} (hm : X.mg x = some u) (r : RelV v u) (rr : ∀ Z, Rep T Z v d) (hg : Gl X x := by rfl) (hd : (x == ("__debug__" : Str)) = false := by decide) : SE X T W (.Name x pos) (cK d) := se_k (pe_glob hg hm r hd) rr
theorem se_bltn {x : Str} {n : String} (hm : X.mg x = none) (hg : Gl X x := by rfl) (hv : bootBuiltins x = some (.type n) := by decide +kernel) (hn : x ≠ "__name__" := by decide) (hd : (x == ("__debug__" : Str)) = false := by decide) : SE X T W (.Name x pos) (cK (.ty n)) := se_k (pe_bltn (v := .ty n) hg hm hv rfl hn hd) fun _ => .ty n
end
end L2.S

set_option Elab.async false
set_option linter.all false
set_option maxRecDepth 100000
set_option maxHeartbeats 4000000
namespace L2.S
open PySem PySem.Spec PyProof.Rows
section
open PySem.W Builtin
variable {prog : Program} {w : World} {A : Around} {E : Value → Shared → Prop} {s : Shared} {K : PySem.W.Frag} {x C f L : Addr} {h₀ : Heap} {m : Str → Option Value} {ox : Obj} {od : Option Obj} {b tb : Value}
def NeBack (Q : Value → Shared → Prop) (v : Value) (s' : Shared) : Prop := ∃ k, v = .bool k ∧ Q (.bool (!k)) s'
theorem ne_K {Q : Value → Shared → Prop} (hu : A.units + 1 < cLine) (F : Fr h₀ L s.heap m) (X₀ : K.In h₀) (I : PySem.W.InstAt s.heap x ox C od) (hb : PySem.W.Looks (model prog w) s.heap (typeOf b) tb) (hn : PySem.W.notFirst K C tb = true)
    (hs : PySem.W.findIn K (.ref C) "__eq__" = some (some (.ref f))) (hf : PySem.W.isFn K (.ref f) = true) (hne : PySem.W.findIn K (.ref C) "__ne__" = some (some (.builtin "object.__ne__"))) (hob : PySem.W.mroIn K C (.type "object") = some true)
    (h : wpAny (model prog w) A.in1 (call (.ref f) [.ref x, b]) (NeBack Q) E s) : wpAny (model prog w) A (richCompare .NotEq (.ref x) b) Q E s := by
  have X := X₀.keeps F.keep
  have one : wpAny (model prog w) A (tryCompare (.ref x) "__ne__" b) (fun r s' => ∃ v, r = some v ∧ Q v s') E s := by
    unfold tryCompare
    refine wpAny_bind ?_
    simp only [callSpecialIfBound?, bindSpecialIfBound?]
    refine wpAny_holding (wpAny_bind (wpAny_bind (wpAny_bind (I.type.here ((looks_findIn X hne).here ?_)))))
    have body : wpAny (model prog w) A (call (.builtin "object.__ne__") ([.ref x] ++ [b])) (fun v s' => v ≠ .notImplemented ∧ Q v s') E s := by
      refine wpAny_call (codeAny_call_builtin (by decide +kernel) PySem.F.cmpEntry_ne (check_slot PySem.F.cmpKind_ne PySem.F.cmpSplit_ne ((I.type.andThen (looks_mroIn X hob))) (PySem.F.cmpArgs_ne _ _) ?_))
      show wpAny (model prog w) A.in1 (Builtin.«object.__ne__» ⟨[.ref x, b], []⟩) _ E s
      unfold Builtin.«object.__ne__»
      refine wpAny_bind (m := slotArgs "__ne__" 1 _) (wpAny_pure ?_)
      refine wpAny_bind (wpAny_cRoomFor (show A.in1.units < cLine from hu) ?_)
      refine wpAny_bind (ifBound_K X I hs hf (wpAny_mono h (fun v s' hv => ?_) fun _ _ e => e))
      obtain ⟨k, rfl, q⟩ := hv
      refine wpAny_bind (wpAny_truthy_bool ?_)
      exact wpAny_pure ⟨(fun z => nomatch z), q⟩
    refine wpAny_bind (wpAny_askSetting (wpAny_ite ?_))
    have fin : wpAny (model prog w) A (call (.builtin "object.__ne__") ([.ref x] ++ [b]) >>= fun v => pure (some v)) (fun r s' => wpAny (model prog w) A (match r with | some .notImplemented | none => pure none | some v => pure (some v)) (fun r s' => ∃ v, r = some v ∧ Q v s') E s') E s := by
      refine wpAny_bind (wpAny_mono body (fun v s' hv => wpAny_pure ?_) fun _ _ e => e)
      obtain ⟨n, q⟩ := hv
      cases v <;> first | exact (n rfl).elim | exact wpAny_pure ⟨_, rfl, q⟩
    split
    · exact wpAny_bind (by rw [PySem.F.cmp_object.ne.bind]; exact wpAny_pure (wpAny_pure (by exact fin)))
    · exact wpAny_tryCatch (wpAny_bind (by rw [PySem.F.cmp_object.ne.bind]; exact wpAny_pure (wpAny_pure (by exact fin))))
  unfold richCompare
  simp only [oneThing_ref]
  refine wpAny_holding (wpAny_bind (wpAny_cRoomFor (Nat.lt_of_succ_lt hu) ?_))
  refine wpAny_bind (I.type.here (wpAny_bind (hb.here ?_)))
  split
  · rename_i q
    have e : subIn K tb (.ref C) = some false := by
      rcases Bool.or_eq_true_iff.mp hn with e | e
      · rw [beq_iff_eq.mp e] at q; simp at q
      · exact beq_iff_eq.mp e
    refine wpAny_bind ((looks_subIn X e).here ?_)
    simp only [Bool.false_eq_true, if_false]
    refine wpAny_bind (wpAny_mono one (fun r s' z => ?_) fun _ _ e => e)
    obtain ⟨v, rfl, hq⟩ := z
    exact wpAny_pure hq
  · refine wpAny_bind (wpAny_pure ?_)
    simp only [Bool.false_eq_true, if_false]
    refine wpAny_bind (wpAny_mono one (fun r s' z => ?_) fun _ _ e => e)
    obtain ⟨v, rfl, hq⟩ := z
    exact wpAny_pure hq
end
end L2.S

set_option Elab.async false
set_option linter.all false
set_option maxRecDepth 100000
set_option maxHeartbeats 4000000
namespace L2.S
open PySem PySem.Spec PyProof.Rows
section
variable {X : Cx} {T : Tb} {W : WX} {a b c e : Expr} {es : List Expr} {f g : Env' → R} {fa : Env' → RA} {pos p apos : Pos} {k : Nat} {φ : Fn} {x m : Str} {fx : Addr}
def OpE (X : Cx) (T : Tb) (W : WX) (sem : Value → Value → Sem Value) (p : D → D → Env' → R) : Prop :=
  ∀ (pins : List (Addr × Obj)) (s : Shared) (σ : St) (H : Hp) (x y : V) (v u : Value) (Q : VK) (G : Gd) (B : List (Nat × Addr)) (Z : Hp) (env : Env') (dx dy : D),
    Inv X pins σ H s → RelV x v → RelV y u → EOk T G B Z H σ env → Rep T Z x dx → Rep T Z y dy → PR T W G B Z σ Q (p dx dy env) → wpAny (model X.prog X.w) X.A (sem v u) (EP X pins σ Q) X.xe s
theorem OpE.of {sem : Value → Value → Sem Value} {p : D → D → Option RV} (ho : Op2 X T sem p) : OpE X T W sem (ofOp p) := by
  intro pins s σ H x y v u Q G B Z env dx dy I rx ry E r1 r2 h
  unfold ofOp at h
  cases q : p dx dy with
  | none => rw [q] at h; exact h.elim
  | some r =>
    rw [q] at h
    exact ho pins s σ H x y v u Q G B Z σ env dx dy r I rx ry E r1 r2 q h
theorem Two.opE {sem : Value → Value → Sem Value} {p : D → D → Env' → R} (ho : OpE X T W sem p) {pins : List (Addr × Obj)} {s : Shared} {σ : St} {H : Hp} {x y : V} {v u : Value} {Q : VK}
    (I : Inv X pins σ H s) (rx : RelV x v) (ry : RelV y u) (h : Two T W p σ Q x y H) : wpAny (model X.prog X.w) X.A (sem v u) (EP X pins σ Q) X.xe s := by
  obtain ⟨G, B, Z, e, dx, dy, E, r1, r2, h⟩ := h
  exact ho pins s σ H x y v u Q G B Z e dx dy I rx ry E r1 r2 h
theorem se_binE {op : Operator} {p : D → D → Env' → R} (ho : OpE X T W (binaryOp op) p) (ha : SE X T W a f) (hb : SE X T W b g) : SE X T W (.BinOp a op b pos) (two p f g) := by
  refine ⟨fun pins s σ H Q I h => ?_⟩
  exact wpAny_BinOp (binT ha hb I (two_tX h) fun v u s2 x y H2 I2 rx ry q => q.opE ho I2 rx ry)
theorem se_cmpE {op : CmpOp} {p : D → D → Env' → R} (ho : OpE X T W (compareOp op) p) (ha : SE X T W a f) (hb : SE X T W b g) (hm : behindInMarks op b = false) : SE X T W (.Compare a [op] [b] pos) (two p f g) := by
  refine ⟨fun pins s σ H Q I h => ?_⟩
  exact wpAny_Compare1 (binT ha hb I (two_tX h) fun v u s2 x y H2 I2 rx ry q => q.opE ho I2 rx ry) hm
theorem run_C {φ : Fn} {dds : List D} (F : FnC X.prog X.w X.K X.mg X.base T k φ dds fx) (hr : Room k X.A) (tk : Takes X W) {pins : List (Addr × Obj)} {s : Shared} {σ : St} {H : Hp} {vs : List V} {us : List Value} {Q : VK} {G : Gd} {B : List (Nat × Addr)} {Z : Hp} {env : Env'} {as : List AV}
    (I : Inv X pins σ H s) (r : Vals vs us) (E : EOk T G B Z H σ env) (ra : AVOk T Z σ vs as) (h : PR T W G B Z σ Q (callR φ dds as env)) : wpAny (model X.prog X.w) X.A (call (.ref fx) us) (EP X pins σ Q) X.xe s := by
  obtain ⟨fd, ps, dvs, ds, F1, hb, hd, dfl⟩ := F.ex
  exact run_fnG F1 hr hb hd (passAt tk σ) I r (call_sp dfl E ra h)
structure OwnOp (X : Cx) (T : Tb) (c : Nat) (nm : Str) (φ : Fn) : Prop where
  ex : ∃ k fx, FnC X.prog X.w X.K X.mg X.base T k φ [] fx ∧ Room k X.A ∧ PySem.W.findIn X.K (.ref (T.cl c)) nm = some (some (.ref fx)) ∧ PySem.W.isFn X.K (.ref fx) = true
  sf : PySem.W.selfFirst X.K (T.cl c) = true
def OwnOps (X : Cx) (T : Tb) (nm : Str) (M : List (Nat × Fn)) : Prop := ∀ c φ, M.lookup c = some φ → OwnOp X T c nm φ
theorem ownOps_0 {nm : Str} : OwnOps X T nm [] := fun c φ h => by simp at h
theorem ownOps_c {nm : Str} {M : List (Nat × Fn)} {c : Nat} (h : OwnOp X T c nm φ) (r : OwnOps X T nm M) : OwnOps X T nm ((c, φ) :: M) := fun c' φ' q => by
  rw [List.lookup_cons] at q
  cases z : c' == c with
  | true =>
    rw [z] at q; cases q
    have := eq_of_beq z
    subst this
    exact h
  | false => rw [z] at q; exact r c' φ' q
def pOwn (M : List (Nat × Fn)) (p : D → D → Option RV) : D → D → Env' → R := fun x y e => match x with
  | .obj c xs => (match y with
    | .obj c' ys => if c' = c then (match M.lookup c with | some φ => callR φ [] [.d (.obj c xs), .d (.obj c' ys)] e | none => .no) else .no
    | _ => .no)
  | _ => ofOp p x y e
theorem rep_obj {Z : Hp} {v : V} {c : Nat} {xs : List D} (r : Rep T Z v (.obj c xs)) : ∃ a dx vs, v = .ref a ∧ Z a = some (.ins (T.cl c) dx ((T.fl c).zip vs)) := by
  cases r with
  | @obj a dx vs _ _ h n rs => exact ⟨a, dx, vs, rfl, h⟩
theorem oe_own {op : Operator} {M : List (Nat × Fn)} {p : D → D → Option RV} (tk : Takes X W) (ho : Op2 X T (binaryOp op) p) (hM : OwnOps X T (PySem.dunder op.info.2) M) : OpE X T W (binaryOp op) (pOwn M p) := by
  intro pins s σ H x y v u Q G B Z env dx dy I rx ry E r1 r2 h
  by_cases hd : ∃ c xs, dx = .obj c xs
  · obtain ⟨c, xs, rfl⟩ := hd
    unfold pOwn at h
    dsimp only at h
    split at h
    · rename_i c' ys
      split at h
      · rename_i hc
        subst hc
        cases hl : M.lookup c' with
        | none => rw [hl] at h; exact h.elim
        | some φ =>
          rw [hl] at h
          obtain ⟨⟨k, fx, F, hr, at_, fn⟩, sf⟩ := hM c' φ hl
          obtain ⟨a1, dx1, vs1, rfl, z1⟩ := rep_obj r1
          obtain ⟨a2, dx2, vs2, rfl, z2⟩ := rep_obj r2
          cases rx
          cases ry
          obtain ⟨mA, J, _⟩ := ins_get I.hok (E.sub _ _ z1)
          obtain ⟨mB, J', _⟩ := ins_get I.hok (E.sub _ _ z2)
          obtain ⟨od, J, _⟩ := J.look
          obtain ⟨od', J', _⟩ := J'.look
          obtain ⟨m, hF⟩ := I.fr
          refine PySem.W.binop_K hF I.ok.mod.kin J J'.type sf at_ fn (wpAny_mono (run_C (vs := [.ref a1, .ref a2]) (as := [.d _, .d _]) F hr tk I (.cons rfl (.cons rfl .nil)) E ⟨r1, r2, True.intro⟩ h) (fun v s' q => ?_) fun _ _ z => z)
          obtain ⟨w, H', I', rw_, q'⟩ := q
          exact SlX.cmpback rw_ ⟨w, H', I', rw_, q'⟩
      · exact h.elim
    · exact h.elim
  · have : pOwn M p dx dy env = ofOp p dx dy env := by
      unfold pOwn
      split
      · exact (hd ⟨_, _, rfl⟩).elim
      · rfl
    rw [this] at h
    exact OpE.of ho pins s σ H x y v u Q G B Z env dx dy I rx ry E r1 r2 h
def cNegM (M : List (Nat × Fn)) (f : Env' → R) : Env' → R := fun env => (f env).bind fun d e => match d with
  | .int i => .ok (.d (.int (-i))) e
  | .obj c xs => (match M.lookup c with | some φ => callR φ [] [.d (.obj c xs)] e | none => .no)
  | _ => .no
theorem se_negM {M : List (Nat × Fn)} (tk : Takes X W) (hM : OwnOps X T "__neg__" M) (ha : SE X T W a f) : SE X T W (.UnaryOp .USub a pos) (cNegM M f) := by
  refine ⟨fun pins s σ H Q I h => ?_⟩
  obtain ⟨G, B, Z, env, E, q⟩ := h
  refine wpAny_UnaryOp (thn (ha.run pins s σ H _ I (useR (P := fun v H1 => ∃ Z1 e d, EOk T G B Z1 H1 σ e ∧ Rep T Z1 v d ∧ PR T W G B Z1 σ Q (match d with
    | .int i => .ok (.d (.int (-i))) e
    | .obj c xs => (match M.lookup c with | some φ => callR φ [] [.d (.obj c xs)] e | none => .no)
    | _ => .no)) E q fun v H1 Z1 e d s E1 r q1 => ⟨Z1, e, d, E1, r, q1⟩)) fun u s1 ⟨x, H1, I1, rx, Z1, e, d, E1, r, q1⟩ => ?_)
  cases r with
  | int i => exact un_neg pins s1 σ H1 (.int i) u Q I1 rx ⟨i, rfl, q1 _ H1 Z1 (Same.refl _) E1 (.int _)⟩
  | @obj a dx vs c ds h n rs =>
    dsimp only at q1
    cases hl : M.lookup c with
    | none => rw [hl] at q1; exact q1.elim
    | some φ =>
      rw [hl] at q1
      obtain ⟨⟨k, fx, F, hr, at_, fn⟩, sf⟩ := hM c φ hl
      cases rx
      obtain ⟨mA, J, _⟩ := ins_get I1.hok (E1.sub _ _ h)
      obtain ⟨od, J, _⟩ := J.look
      obtain ⟨m, hF⟩ := I1.fr
      exact PySem.W.ksp_neg hF I1.ok.mod.kin J at_ fn (run_C (vs := [.ref a]) (as := [.d _]) F hr tk I1 (.cons rfl .nil) E1 ⟨.obj h n rs, True.intro⟩ q1)
  | _ => exact q1.elim
end
end L2.S

set_option Elab.async false
set_option linter.all false
set_option maxRecDepth 100000
set_option maxHeartbeats 4000000
namespace L2.S
open PySem PySem.Spec PyProof.Rows
section
variable {X : Cx} {T : Tb} {W : WX} {a b c e : Expr} {es : List Expr} {f g h : Env' → R} {fa : Env' → RA} {pos p apos : Pos} {k : Nat} {φ : Fn} {x m : Str} {fx : Addr}
def kd : D → Nat
  | .non => 0 | .bl _ => 1 | .int _ => 2 | .str _ => 3 | .tup _ => 4 | .lst _ => 5 | .ro _ => 5 | .obj c _ => 10 + c | _ => 6
def kTy (T : Tb) : Nat → Value
  | 0 => .type "NoneType" | 1 => .type "bool" | 2 => .type "int" | 3 => .type "str" | 4 => .type "tuple" | 5 => .type "list" | 6 => .none | 7 => .none | 8 => .none | 9 => .none | n + 10 => .ref (T.cl n)
structure ClsI (K : PySem.W.Frag) (T : Tb) (c : Nat) : Prop where
  ca : PySem.W.findIn K (.ref (T.cl c)) "__class__" = some (some (.builtin "object.__class__"))
  cn : PySem.W.specialIn K (.builtin "object.__class__") "__get__" = some (some (.builtin "getset_descriptor.__get__"))
  ct : PySem.W.takesIn K (.builtin "object.__class__") = some true
  cm : PySem.W.mroIn K (T.cl c) (.type "object") = some true
theorem ty_tup {K : PySem.W.Frag} {H : Hp} {a : Addr} {vs : List V} (q : SqT K H a vs) : TyX K H (.ref a) (.type "tuple") := by
  rcases q with (q | ⟨o, q⟩) | ⟨o, its, n, q, hc, _⟩
  · exact .base (.tup q)
  · exact .fTuple q
  · exact .kTuple q hc
theorem ty_lst {K : PySem.W.Frag} {H : Hp} {a : Addr} {vs : List V} (q : SqL K H a vs) : TyX K H (.ref a) (.type "list") := by
  rcases q with (q | ⟨o, q⟩) | ⟨o, its, n, q, hc, _⟩
  · exact .base (.lst q)
  · exact .base (.frz q)
  · exact .kList q hc
theorem ty_rep {K : PySem.W.Frag} {Z H : Hp} {v : V} {d : D} (hT : K = T.K) (s : Same Z H) (r : Rep T Z v d) (hk : kd d ≠ 6) (ci : ∀ c, kd d = 10 + c → ClsI K T c ∧ Cls K (T.cl c)) : TyX K H v (kTy T (kd d)) := by
  cases r with
  | non => exact .base .non
  | bl b => exact .base (.bl b)
  | int i => exact .base (.int i)
  | str l => exact .base (.str _)
  | tup q _ => exact ty_tup (by rw [hT]; exact sqt_mono s q)
  | lst q _ => exact ty_lst (.of (s _ _ q))
  | ro q _ => exact ty_lst (by rw [hT]; exact s.seq q)
  | @obj a dx vs c ds q n rs =>
    obtain ⟨I, cl⟩ := ci c rfl
    have e1 : kTy T (kd (.obj c ds)) = .ref (T.cl c) := by
      show kTy T (10 + c) = _
      rw [Nat.add_comm]
      rfl
    rw [e1]
    exact .base (.ins (s _ _ q) cl I.ca I.cn I.ct I.cm)
  | _ => exact (hk rfl).elim
structure OwnEq (X : Cx) (T : Tb) (c : Nat) (φ : Fn) (ks : List Nat) : Prop where
  op : ∃ k fx, FnC X.prog X.w X.K X.mg X.base T k φ [] fx ∧ Room (k + 1) X.A ∧ PySem.W.findIn X.K (.ref (T.cl c)) "__eq__" = some (some (.ref fx)) ∧ PySem.W.isFn X.K (.ref fx) = true
  nf : ∀ n ∈ ks, n ≠ 6 ∧ PySem.W.notFirst X.K (T.cl c) (kTy T n) = true ∧ ∀ c', n = 10 + c' → ClsI X.K T c' ∧ Cls X.K (T.cl c')
  ne : PySem.W.findIn X.K (.ref (T.cl c)) "__ne__" = some (some (.builtin "object.__ne__"))
  ob : PySem.W.mroIn X.K (T.cl c) (.type "object") = some true
def OwnEqs (X : Cx) (T : Tb) (M : List (Nat × Fn × List Nat)) : Prop := ∀ c φ ks, M.lookup c = some (φ, ks) → OwnEq X T c φ ks
theorem ownEqs_0 : OwnEqs X T [] := fun c φ ks h => by simp at h
theorem ownEqs_c {M : List (Nat × Fn × List Nat)} {c : Nat} {ks : List Nat} (h : OwnEq X T c φ ks) (r : OwnEqs X T M) : OwnEqs X T ((c, φ, ks) :: M) := fun c' φ' ks' q => by
  rw [List.lookup_cons] at q
  cases z : c' == c with
  | true =>
    rw [z] at q; cases q
    have := eq_of_beq z
    subst this
    exact h
  | false => rw [z] at q; exact r c' φ' ks' q
def R.boolTo (neg : Bool) : R → R
  | .ok (.d (.bl b)) e => .ok (.d (.bl (if neg then !b else b))) e
  | .ex x e => .ex x e
  | _ => .no
def pEqX : D → D → Option RV := fun x y => match x, y with
  | .lst _, .str _ => some (.d (.bl false))
  | .ro _, .str _ => some (.d (.bl false))
  | .tup _, .str _ => some (.d (.bl false))
  | _, _ => none
theorem o_eqX (hT : X.K = T.K) (hu : X.A.units < cLine) : Op2 X T (compareOp .Eq) pEqX := by
  intro pins s σ H x y v u Q G B Z σ' env dx dy r I rx ry E r1 r2 e c
  unfold pEqX at e
  split at e
  · cases e
    cases r2
    cases r1 with
    | lst q rs =>
      cases rx
      obtain ⟨t, rfl⟩ := ry
      obtain ⟨its, rv, ⟨o, n, ho, hc, _, hd⟩, _⟩ := I.list (SqL.of (E.sub _ _ q))
      exact SeqAt.RcAt.list_str _ _ ⟨o, ho, hc, n, hd⟩ hu _ _ _ _ ⟨.bl false, H, I, rfl, c _ H Z (Same.refl _) E (.bl _)⟩
  · cases e
    cases r2
    cases r1 with
    | ro q rs =>
      cases rx
      obtain ⟨t, rfl⟩ := ry
      obtain ⟨its, rv, ⟨o, n, ho, hc, _, hd⟩, _⟩ := I.list (show SqL X.K H _ _ by rw [hT]; exact E.sub.seq q)
      exact SeqAt.RcAt.list_str _ _ ⟨o, ho, hc, n, hd⟩ hu _ _ _ _ ⟨.bl false, H, I, rfl, c _ H Z (Same.refl _) E (.bl _)⟩
  · cases e
    cases r2
    cases r1 with
    | tup q rs =>
      cases rx
      obtain ⟨t, rfl⟩ := ry
      obtain ⟨its, rv, ⟨o, ho, hc, n, hd⟩, _⟩ := I.tuple (show SqT X.K H _ _ by rw [hT]; exact sqt_mono E.sub q)
      exact SeqAt.RcAt.tuple_str _ _ ⟨o, ho, hc, n, hd⟩ hu _ _ _ _ ⟨.bl false, H, I, rfl, c _ H Z (Same.refl _) E (.bl _)⟩
  · cases e
def pEqM (neg : Bool) (M : List (Nat × Fn × List Nat)) (q : D → D → Option RV) : D → D → Env' → R := fun x y e => match x with
  | .obj c xs => (match M.lookup c with
    | some (φ, ks) => if kd y ∈ ks then (callR φ [] [.d (.obj c xs), .d y] e).boolTo neg else .no
    | none => .no)
  | _ => ofOp q x y e
theorem eqM_go (hT : X.K = T.K) {neg : Bool} {M : List (Nat × Fn × List Nat)} (tk : Takes X W) (hM : OwnEqs X T M) {q : D → D → Option RV} {op : CmpOp} (hop : (neg = false ∧ op = .Eq) ∨ (neg = true ∧ op = .NotEq)) (ho : Op2 X T (compareOp op) q) : OpE X T W (compareOp op) (pEqM neg M q) := by
  intro pins s σ H x y v u Q G B Z env dx dy I rx ry E r1 r2 h
  by_cases hd : ∃ c xs, dx = .obj c xs
  · obtain ⟨c, xs, rfl⟩ := hd
    unfold pEqM at h
    dsimp only at h
    cases hl : M.lookup c with
    | none => rw [hl] at h; exact h.elim
    | some φk =>
      obtain ⟨φ, ks⟩ := φk
      rw [hl] at h
      dsimp only at h
      split at h
      · rename_i hk
        obtain ⟨⟨k, fx, F, hr, at_, fn⟩, nf, ne, ob⟩ := hM c φ ks hl
        obtain ⟨h6, hn, hci⟩ := nf _ hk
        obtain ⟨a1, dx1, vs1, rfl, z1⟩ := rep_obj r1
        cases rx
        obtain ⟨mA, J, _⟩ := ins_get I.hok (E.sub _ _ z1)
        obtain ⟨od, J, _⟩ := J.look
        obtain ⟨m, hF⟩ := I.fr
        obtain ⟨P, KX, hP, _⟩ := kit_of I ry (ty_rep hT E.sub r2 h6 hci)
        have hty := KX.ty (model X.prog X.w) s.heap I.kIn hP
        have rr : AVOk T Z σ [V.ref a1, y] [.d (.obj c xs), .d dy] := ⟨r1, r2, True.intro⟩
        have go : ∀ (X' : Cx) (hX : X' = X), ∀ (A : Around), (A = X.A ∨ A = X.A.in1) → wpAny (model X.prog X.w) A (call (.ref fx) [.ref a1, u]) (fun v s' => ∃ k, v = .bool k ∧ EP X pins σ Q (.bool (if neg then !k else k)) s') X.xe s := fun X' hX A hA => by
          have base : ∀ (rr2 : Room k A) (e0 : Env0 X.prog X.w X.K X.mg X.base A X.stack s H), wpAny (model X.prog X.w) A (call (.ref fx) [.ref a1, u]) (fun v s' => ∃ k, v = .bool k ∧ EP X pins σ Q (.bool (if neg then !k else k)) s') X.xe s := fun rr2 e0 => by
            obtain ⟨fd, ps, dvs, ds, F1, hb, hd, dfl⟩ := F.ex
            have hsp : sp T φ ([V.ref a1, y] ++ dvs) H (fun v H' => ∃ k, v = .bl k ∧ Q (.bl (if neg then !k else k)) H') (fun cls d H' => W cls d σ H') := call_sp dfl E rr (by
              unfold R.boolTo at h
              cases hc : callR φ [] [.d (.obj c xs), .d dy] env with
              | no => rw [hc] at h; exact h.elim
              | ex x e => rw [hc] at h; exact h
              | ok r e =>
                rw [hc] at h
                cases r with
                | o o => exact h.elim
                | d d =>
                  cases d with
                  | bl b => exact fun v H' Z' s' E' r' => by cases r'; exact ⟨b, rfl, h _ H' Z' s' E' (.bl _)⟩
                  | _ => exact h.elim)
            have r2' : Vals ([V.ref a1, y] ++ dvs) ([.ref a1, u] ++ ds) := (show Vals [V.ref a1, y] [.ref a1, u] from .cons rfl (.cons ry .nil)).append hd
            have hlen : ([Value.ref a1, u] ++ ds).length = ps.length := by rw [← r2'.length]; exact F1.len _ _ _ _ hsp
            refine wpAny_call (codeAny_mono (F1.run A X.stack s H ⟨[.ref a1, u], []⟩ ([.ref a1, u] ++ ds) ([V.ref a1, y] ++ dvs) _ _ rr2 e0 (hb s _ I.kIn hlen) r2' hsp) fun r s' hq => ?_)
            cases r with
            | error e => exact passAt tk σ pins H s e s' I hq
            | ok fl =>
              cases fl with
              | ret u' =>
                obtain ⟨w, H', I', rw', k, e, q'⟩ := I.after hq
                subst e
                cases rw'
                exact ⟨k, rfl, .bl _, H', I', rfl, q'⟩
              | next => exact False.elim hq
              | brk => exact False.elim hq
              | cont => exact False.elim hq
          rcases hA with rfl | rfl
          · exact base (hr.mono (Nat.le_succ _)) I.env0
          · exact base hr.in1 I.env0.in1
        rcases hop with ⟨rfl, rfl⟩ | ⟨rfl, rfl⟩
        · refine PySem.W.cmp_K (op := .Eq) (tb := kTy T (kd dy)) hr.units0 hF I.ok.mod.kin J hty hn at_ fn (wpAny_mono (go X rfl X.A (.inl rfl)) (fun v s' z => ?_) fun _ _ z => z)
          obtain ⟨k, rfl, q'⟩ := z
          exact q'
        · refine ne_K (by have := hr.in1; have := this.units0; exact this) hF I.ok.mod.kin J hty hn at_ fn ne ob (wpAny_mono (go X rfl X.A.in1 (.inr rfl)) (fun v s' z => ?_) fun _ _ z => z)
          obtain ⟨k, rfl, q'⟩ := z
          exact ⟨k, rfl, q'⟩
      · exact h.elim
  · have : pEqM neg M q dx dy env = ofOp q dx dy env := by
      unfold pEqM
      split
      · exact (hd ⟨_, _, rfl⟩).elim
      · rfl
    rw [this] at h
    exact OpE.of ho pins s σ H x y v u Q G B Z env dx dy I rx ry E r1 r2 h
end
end L2.S

set_option Elab.async false
set_option linter.all false
set_option maxRecDepth 100000
set_option maxHeartbeats 4000000
namespace L2.S
open PySem PySem.Spec PyProof.Rows
section
variable {X : Cx} {T : Tb} {W : WX} {a b c e : Expr} {es : List Expr} {f g h : Env' → R} {fa : Env' → RA} {pos p apos : Pos} {k : Nat} {φ : Fn} {x m : Str} {fx : Addr}
theorem st_cmpE {op : CmpOp} {p : D → D → Env' → R} (hT : X.K = T.K) (ho : OpE X T W (compareOp op) p) (ha : SE X T W a f) (hb : SE X T W b g) (hm : behindInMarks op b = false) : ST X T W (.Compare a [op] [b] pos) (cTr (two p f g)) := by
  refine ⟨fun pins s σ H Q I h => ?_⟩
  have h' : tX T W (two p f g) σ H fun v H1 => ∃ k, TruV X.K v H1 k ∧ Q k H1 := by
    obtain ⟨G, B, Z, env, E, q⟩ := h
    refine useT E q fun v H1 Z1 e d s E1 r q1 => ?_
    cases h : truthD d with
    | none => rw [h] at q1; exact q1.elim
    | some b =>
      rw [h] at q1
      exact ⟨b, tru_rep hT E1 r h, q1 H1 Z1 (Same.refl _) E1⟩
  refine wpAny_isTrue_Compare1 (binT ha hb I (two_tX h') fun v u s2 x y H2 I2 rx ry q => thn (q.opE ho I2 rx ry) fun c s3 ⟨z, H3, I3, r3, q3⟩ => tru_ok pins s3 σ H3 z c Q I3 r3 q3) hm
def cCh (p q : D → D → Option RV) (f g h : Env' → R) : Env' → R := fun env => (f env).bind fun x e => (g e).bind fun y e1 => match p x y with
  | some (.d (.bl true)) => (h e1).bind fun z e2 => ofOp q y z e2
  | some (.d (.bl false)) => .ok (.d (.bl false)) e1
  | _ => .no
theorem se_ch {op op' : CmpOp} {p q : D → D → Option RV} (ho : Op2 X T (compareOp op) p) (ho' : Op2 X T (compareOp op') q) (ha : SE X T W a f) (hb : SE X T W b g) (hc : SE X T W c h)
    (hm : lastMarks [op, op'] [b, c] = false := by with_unfolding_all rfl) : SE X T W (.Compare a [op, op'] [b, c] pos) (cCh p q f g h) := by
  refine ⟨fun pins s σ H Q I hq => ?_⟩
  obtain ⟨G, B, Z, env, E, hq⟩ := hq
  refine Compare_chain (thn (ha.run pins s σ H _ I (useR (P := fun x H1 => ∃ Z1 e dx, EOk T G B Z1 H1 σ e ∧ Rep T Z1 x dx ∧ PR T W G B Z1 σ Q ((g e).bind fun y e1 => match p dx y with
    | some (.d (.bl true)) => (h e1).bind fun z e2 => ofOp q y z e2
    | some (.d (.bl false)) => .ok (.d (.bl false)) e1
    | _ => .no)) E hq fun v H1 Z1 e d s E1 r q1 => ⟨Z1, e, d, E1, r, q1⟩)) fun v s1 ⟨x, H1, I1, r1, Z1, e, dx, E1, rx, q1⟩ => ?_) hm
  refine chain_link (thn (hb.run pins s1 σ H1 _ I1 (useR (P := fun y H2 => ∃ Z2 e2 dy, EOk T G B Z2 H2 σ e2 ∧ Rep T Z2 x dx ∧ Rep T Z2 y dy ∧ PR T W G B Z2 σ Q (match p dx dy with
    | some (.d (.bl true)) => (h e2).bind fun z e3 => ofOp q dy z e3
    | some (.d (.bl false)) => .ok (.d (.bl false)) e2
    | _ => .no)) E1 q1 fun v H2 Z2 e2 d s2 E2 r q2 => ⟨Z2, e2, d, E2, rx.mono s2, r, q2⟩)) fun u s2 ⟨y, H2, I2, r2, Z2, e2, dy, E2, rx2, ry, q2⟩ => ?_)
  cases hp : p dx dy with
  | none => rw [hp] at q2; exact q2.elim
  | some rv =>
    rw [hp] at q2
    cases rv with
    | o o => exact q2.elim
    | d d =>
      cases d with
      | bl k =>
        refine thn (ho pins s2 σ H2 x y v u (fun z H3 => z = .bl k ∧ ∃ Z3, Same Z2 Z3 ∧ EOk T G B Z3 H3 σ e2) G B Z2 σ e2 dx dy _ I2 r1 r2 E2 rx2 ry hp fun w H' Z' s' E' r' => ⟨by cases r'; rfl, Z', s', E'⟩) fun d s3 ⟨z, H3, I3, r3, ez, Z3, ss3, E3⟩ => ?_
        subst ez
        cases r3
        refine wpAny_truthy_bool ?_
        cases k with
        | false => exact ite_ff ⟨.bl false, H3, I3, rfl, q2 _ H3 Z3 ss3 E3 (.bl _)⟩
        | true =>
          dsimp only at q2
          refine ite_tt (chain_last (thn (hc.run pins s3 σ H3 _ I3 (useR (P := fun z H4 => ∃ Z4 e4 dz, EOk T G B Z4 H4 σ e4 ∧ Rep T Z4 y dy ∧ Rep T Z4 z dz ∧ PR T W G B Z4 σ Q (ofOp q dy dz e4)) E3 (PR.mono ss3 q2) fun v H4 Z4 e4 d s4 E4 r q4 => ⟨Z4, e4, d, E4, ry.mono (ss3.trans s4), r, q4⟩)) fun w' s4 ⟨z', H4, I4, r4, Z4, e4, dz, E4, ry4, rz, q4⟩ => ?_))
          exact OpE.of ho' pins s4 σ H4 y z' u w' Q G B Z4 e4 dy dz I4 r2 r4 E4 ry4 rz q4
      | _ => exact q2.elim
def IsiF (K : PySem.W.Frag) (T : Tb) (us : List Value) (M : List (Nat × Bool)) : Prop := ∀ n b, M.lookup n = some b → n ≠ 6 ∧ PySem.W.kitAny K (kTy T n) us = some b ∧ ∀ c, n = 10 + c → ClsI K T c ∧ Cls K (T.cl c)
theorem isi_0 {K : PySem.W.Frag} {us : List Value} : IsiF K T us [] := fun n b h => by simp at h
theorem isi_c {K : PySem.W.Frag} {us : List Value} {M : List (Nat × Bool)} {n : Nat} {b : Bool} (h : PySem.W.kitAny K (kTy T n) us = some b) (r : IsiF K T us M) (h6 : n < 6 := by decide) : IsiF K T us ((n, b) :: M) := fun n' b' q => by
  rw [List.lookup_cons] at q
  cases z : n' == n with
  | true =>
    rw [z] at q; cases q
    have := eq_of_beq z
    subst this
    exact ⟨by omega, h, fun c e => by omega⟩
  | false => rw [z] at q; exact r n' b' q
theorem isi_o {K : PySem.W.Frag} {us : List Value} {M : List (Nat × Bool)} {c : Nat} {b : Bool} (CI : ClsI K T c) (cl : Cls K (T.cl c)) (h : PySem.W.kitAny K (.ref (T.cl c)) us = some b) (r : IsiF K T us M) : IsiF K T us ((10 + c, b) :: M) := fun n' b' q => by
  rw [List.lookup_cons] at q
  cases z : n' == 10 + c with
  | true =>
    rw [z] at q; cases q
    have := eq_of_beq z
    subst this
    refine ⟨by omega, ?_, fun c' e => ?_⟩
    · rw [Nat.add_comm]; exact h
    · have : c' = c := by omega
      subst this; exact ⟨CI, cl⟩
  | false => rw [z] at q; exact r n' b' q
def cIsi (M : List (Nat × Bool)) (f : Env' → R) : Env' → R := fun env => (f env).bind fun d e => match M.lookup (kd d) with | some b => .ok (.d (.bl b)) e | none => .no
theorem kitAny_one {K : PySem.W.Frag} {t u : Value} {b : Bool} (h : PySem.W.kitAny K t [u] = some b) : PySem.W.kitOne K t u = some b := by
  unfold PySem.W.kitAny at h
  split at h
  · rename_i e; cases h; exact e
  · rename_i e; cases h; exact e
  · cases h
theorem se_isi {M : List (Nat × Bool)} {v : V} {u : Value} (hT : X.K = T.K) (hM : IsiF X.K T [u] M) (hv : ClsV v u) (hm : X.mg "isinstance" = none) (ha : SE X T W a f) (hb : PE X b (tC v)) (hg : Gl X "isinstance" := by rfl)
    (he : starEach [a, b] X.env = (false, eval a X.env) :: starEach [b] X.env := by rfl) (he2 : starEach [b] X.env = (false, eval b X.env) :: starEach [] X.env := by rfl) (hpl : (backTo pos (starEach [b] X.env)).any (·.1) = false := by rfl)
    (hbt : bootBuiltins "isinstance" = some (.builtin "isinstance") := by decide +kernel) : SE X T W (.Call (.Name "isinstance" p) [a, b] [] pos) (cIsi M f) := by
  refine PE.weak (pe_callB call_isi hg hm hbt (pa_cons ha (pa_cons hb pa_nil he2) he) (he := he) (hpl := hpl)) fun σ H Q ⟨G, B, Z, env, E, q⟩ => ?_
  refine useR E q fun w H1 Z1 e d s E1 r q1 => ?_
  cases hl : M.lookup (kd d) with
  | none => rw [hl] at q1; exact q1.elim
  | some k =>
    rw [hl] at q1
    obtain ⟨h6, hk, hc⟩ := hM _ _ hl
    exact ⟨w, v, _, u, k, rfl, hv, ty_rep hT E1.sub r h6 hc, kitAny_one hk, q1 _ H1 Z1 (Same.refl _) E1 (.bl _)⟩
def tVs : List V → TA
  | [] => tNil
  | v :: vs => tCons (tC v) (tVs vs)
theorem tVs_at {σ : St} {H : Hp} : ∀ {vs : List V} {Q : List V → Hp → Prop}, Q vs H → tVs vs σ H Q
  | [], Q, h => h
  | v :: vs, Q, h => tVs_at (vs := vs) h
theorem se_isiT {M : List (Nat × Bool)} {cs : List V} {us : List Value} {bs : List Expr} {n : Nat} {p2 : Pos} (hT : X.K = T.K) (hM : IsiF X.K T us M) (hv : Paired ClsV cs us) (hm : X.mg "isinstance" = none) (ha : SE X T W a f) (hb : PA X bs (tVs cs)) (hcs : cs.length ≤ 16777216 := by simp) (hg : Gl X "isinstance" := by rfl)
    (he : starEach [a, .Tuple bs n p2] X.env = (false, eval a X.env) :: starEach [.Tuple bs n p2] X.env := by rfl) (he2 : starEach [.Tuple bs n p2] X.env = (false, eval (.Tuple bs n p2) X.env) :: starEach [] X.env := by rfl) (hpl : (backTo pos (starEach [.Tuple bs n p2] X.env)).any (·.1) = false := by rfl)
    (hbt : bootBuiltins "isinstance" = some (.builtin "isinstance") := by decide +kernel) : SE X T W (.Call (.Name "isinstance" p) [a, .Tuple bs n p2] [] pos) (cIsi M f) := by
  refine PE.weak (pe_callB call_isiT hg hm hbt (pa_cons ha (pa_cons (pe_tup hb) pa_nil he2) he) (he := he) (hpl := hpl)) fun σ H Q ⟨G, B, Z, env, E, q⟩ => ?_
  refine useR E q fun w H1 Z1 e d s E1 r q1 => tVs_at ⟨by rw [SZ_eq]; exact hcs, fun tp htp => ?_⟩
  cases hl : M.lookup (kd d) with
  | none => rw [hl] at q1; exact q1.elim
  | some k =>
    rw [hl] at q1
    obtain ⟨h6, hk, hc⟩ := hM _ _ hl
    have E2 := E1.new htp (o := .tup cs)
    exact ⟨w, tp, cs, _, us, k, rfl, upd_same, hv, ty_rep hT E2.sub r h6 hc, hk, q1 _ _ Z1 (Same.refl _) E2 (.bl _)⟩
def cProp (c : Nat) (φ : Fn) (f : Env' → R) : Env' → R := fun env => (f env).bind fun d e => match d with
  | .obj c' xs => if c' = c then (match callR φ [] [.d (.obj c' xs)] e with | .ok r e' => .ok r e' | _ => .no) else .no
  | _ => .no
theorem se_prop {c : Nat} {pr : Addr} (CF : ClsF X.K T c) (hp : PropOf X.K (T.cl c) m pr fx) (F : FnC X.prog X.w X.K X.mg X.base T k φ [] fx) (hr : Room (k + 1) X.A) (ha : SE X T W a f) (hb : attributeBase a m X.env (eval a X.env) = eval a X.env := by rfl) :
    SE X T W (.Attribute a m pos) (cProp c φ f) := by
  obtain ⟨fd, ps, dvs, ds, F1, hb', hd, dfl⟩ := F.ex
  refine PE.weak (pe_prop (E := fun _ _ _ => False) ha CF.cl hp F1 hr hb' hd (fun pins σ H s e s' I c => by
    obtain ⟨_, _, _, _, _, _, _, _, _, _, _, _, z⟩ := c
    exact z.elim) hb) fun σ H Q ⟨G, B, Z, env, E, q⟩ => ?_
  refine useR E q fun v H1 Z1 e d s E1 r q1 => ?_
  cases r with
  | @obj a dx vs c' ds' h n rs =>
    dsimp only at q1
    by_cases hc : c' = c
    · subst hc
      rw [if_pos rfl] at q1
      refine ⟨a, dx, _, rfl, E1.sub _ _ h, ?_⟩
      refine call_sp (W := fun _ _ _ _ => False) (vs := [.ref a]) (avs := [.d (.obj c' ds')]) dfl E1 ⟨.obj h n rs, True.intro⟩ ?_
      cases hcr : callR φ [] [.d (.obj c' ds')] e with
      | no => rw [hcr] at q1; exact q1.elim
      | ex x e' => rw [hcr] at q1; exact q1.elim
      | ok r e' => rw [hcr] at q1; exact q1
    · rw [if_neg hc] at q1; exact q1.elim
  | _ => exact q1.elim
end
end L2.S

set_option Elab.async false
set_option linter.all false
set_option maxRecDepth 100000
set_option maxHeartbeats 4000000
namespace L2.S
open PySem PySem.Spec PyProof.Rows
section
variable {X : Cx} {T : Tb} {W : WX} {a b c e : Expr} {es : List Expr} {f g h : Env' → R} {fa : Env' → RA} {pos p apos : Pos} {k : Nat} {φ : Fn} {x m : Str} {fx : Addr}
theorem st_ch {op op' : CmpOp} {p q : D → D → Option RV} (hT : X.K = T.K) (ho : Op2 X T (compareOp op) p) (ho' : Op2 X T (compareOp op') q) (ha : SE X T W a f) (hb : SE X T W b g) (hc : SE X T W c h)
    (hm : lastMarks [op, op'] [b, c] = false := by with_unfolding_all rfl) : ST X T W (.Compare a [op, op'] [b, c] pos) (cTr (cCh p q f g h)) := by
  refine ⟨fun pins s σ H Q I h0 => ?_⟩
  have hq' : tX T W (cCh p q f g h) σ H fun v H1 => ∃ k, TruV X.K v H1 k ∧ Q k H1 := by
    obtain ⟨G, B, Z, env, E, q⟩ := h0
    refine useT E q fun v H1 Z1 e d s E1 r q1 => ?_
    cases h : truthD d with
    | none => rw [h] at q1; exact q1.elim
    | some b =>
      rw [h] at q1
      exact ⟨b, tru_rep hT E1 r h, q1 H1 Z1 (Same.refl _) E1⟩
  obtain ⟨G, B, Z, env, E, hq⟩ := hq'
  refine isTrue_chain (thn (ha.run pins s σ H _ I (useR (P := fun x H1 => ∃ Z1 e dx, EOk T G B Z1 H1 σ e ∧ Rep T Z1 x dx ∧ PR T W G B Z1 σ (fun v H1 => ∃ k, TruV X.K v H1 k ∧ Q k H1) ((g e).bind fun y e1 => match p dx y with
    | some (.d (.bl true)) => (h e1).bind fun z e2 => ofOp q y z e2
    | some (.d (.bl false)) => .ok (.d (.bl false)) e1
    | _ => .no)) E hq fun v H1 Z1 e d s E1 r q1 => ⟨Z1, e, d, E1, r, q1⟩)) fun v s1 ⟨x, H1, I1, r1, Z1, e, dx, E1, rx, q1⟩ => ?_) hm
  refine test_link (thn (hb.run pins s1 σ H1 _ I1 (useR (P := fun y H2 => ∃ Z2 e2 dy, EOk T G B Z2 H2 σ e2 ∧ Rep T Z2 x dx ∧ Rep T Z2 y dy ∧ PR T W G B Z2 σ (fun v H1 => ∃ k, TruV X.K v H1 k ∧ Q k H1) (match p dx dy with
    | some (.d (.bl true)) => (h e2).bind fun z e3 => ofOp q dy z e3
    | some (.d (.bl false)) => .ok (.d (.bl false)) e2
    | _ => .no)) E1 q1 fun v H2 Z2 e2 d s2 E2 r q2 => ⟨Z2, e2, d, E2, rx.mono s2, r, q2⟩)) fun u s2 ⟨y, H2, I2, r2, Z2, e2, dy, E2, rx2, ry, q2⟩ => ?_)
  cases hp : p dx dy with
  | none => rw [hp] at q2; exact q2.elim
  | some rv =>
    rw [hp] at q2
    cases rv with
    | o o => exact q2.elim
    | d d =>
      cases d with
      | bl k =>
        refine thn (ho pins s2 σ H2 x y v u (fun z H3 => z = .bl k ∧ ∃ Z3, Same Z2 Z3 ∧ EOk T G B Z3 H3 σ e2) G B Z2 σ e2 dx dy _ I2 r1 r2 E2 rx2 ry hp fun w H' Z' s' E' r' => ⟨by cases r'; rfl, Z', s', E'⟩) fun d s3 ⟨z, H3, I3, r3, ez, Z3, ss3, E3⟩ => ?_
        subst ez
        cases r3
        refine wpAny_truthy_bool ?_
        cases k with
        | false =>
          obtain ⟨k', ek, q3⟩ := q2 _ H3 Z3 ss3 E3 (.bl _)
          cases (show k' = false from ek)
          exact ite_ff ⟨H3, I3, q3⟩
        | true =>
          dsimp only at q2
          refine ite_tt (test_last (thn (hc.run pins s3 σ H3 _ I3 (useR (P := fun z H4 => ∃ Z4 e4 dz, EOk T G B Z4 H4 σ e4 ∧ Rep T Z4 y dy ∧ Rep T Z4 z dz ∧ PR T W G B Z4 σ (fun v H1 => ∃ k, TruV X.K v H1 k ∧ Q k H1) (ofOp q dy dz e4)) E3 (PR.mono ss3 q2) fun v H4 Z4 e4 d s4 E4 r q4 => ⟨Z4, e4, d, E4, ry.mono (ss3.trans s4), r, q4⟩)) fun w' s4 ⟨z', H4, I4, r4, Z4, e4, dz, E4, ry4, rz, q4⟩ => ?_))
          exact thn (OpE.of ho' pins s4 σ H4 y z' u w' _ G B Z4 e4 dy dz I4 r2 r4 E4 ry4 rz q4) fun d' s5 ⟨z2, H5, I5, r5, q5⟩ => tru_ok pins s5 σ H5 z2 d' Q I5 r5 q5
      | _ => exact q2.elim
structure ExcF (X : Cx) (T : Tb) (c : Nat) : Prop where
  ex : ∃ B n i bm, ExcBaseFacts B n i bm ∧ PySem.W.excIn X.K (T.ec c) bm n = true
  kp : PySem.W.keepIn X.K (.ref (T.ec c)) = true
  ra : Raises X (.ref (T.ec c))
  nf : T.ef c = []
def sRaise (c : Nat) : Env' → RS := fun e => .ex ⟨c, []⟩ e
theorem ss_raise {c : Nat} {m : Str} {j : Nat} {p2 p3 : Pos} (hc : X.calm = true) (tk : Takes X W) (F : ExcF X T c) (hm : X.mg x = some (.ref (T.ec c))) (hg : Gl X x := by rfl) (hdb : (x == ("__debug__" : Str)) = false := by decide) :
    SS X T W (.Raise (some (.Call (.Name x p) [.Constant (.str m) j p2] [] p3)) none pos) (sRaise c) := by
  obtain ⟨B, n, i, bm, F1, F2⟩ := F.ex
  refine PS.weak (ps_raise hc tk (pmk_own F1 F2 hm F.kp F.ra hg hdb)) fun K σ H ⟨G, B, Z, env, E, q⟩ => ?_
  exact q _ _ σ H Z (Same.refl _) E ⟨rfl, .inl ⟨F.nf, rfl, rfl⟩⟩
def ExmF (K : PySem.W.Frag) (T : Tb) (c : Value) (M : List (Nat × Bool)) : Prop := ∀ n b, M.lookup n = some b → PySem.W.exmOne K (.ref (T.ec n)) c = some b
theorem exm_0 {K : PySem.W.Frag} {c : Value} : ExmF K T c [] := fun n b h => by simp at h
theorem exm_c {K : PySem.W.Frag} {c : Value} {M : List (Nat × Bool)} {n : Nat} {b : Bool} (h : PySem.W.exmOne K (.ref (T.ec n)) c = some b) (r : ExmF K T c M) : ExmF K T c ((n, b) :: M) := fun n' b' q => by
  rw [List.lookup_cons] at q
  cases z : n' == n with
  | true =>
    rw [z] at q; cases q
    have := eq_of_beq z
    subst this
    exact h
  | false => rw [z] at q; exact r n' b' q
def sTry (M : List (Nat × Bool)) (t : Env' → RS) (u : Env' → RS) : Env' → RS := fun env => match t env with
  | .ex x e => (match M.lookup x.c with | some true => (match u e with | .ex _ _ => .no | r => r) | some false => .ex x e | none => .no)
  | r => r
theorem ss_try {M : List (Nat × Bool)} {body suite : List Stmt} {b₀ : Stmt} {c : Value} {np pos' : Pos} {t u : Env' → RS} (hM : ExmF X.K T c M) (hn : Names X x c) (tk : Takes X W)
    (hb : ∀ (W' : WX) (pn : List (Addr × Obj)) (xe : Value → Shared → Prop), Takes (X.tr pn xe) W' → PassesOwn (model X.prog X.w) X.A X.env xe → SSs (X.tr pn xe) T W' body t)
    (hsu : ∀ (a : Addr) (pn : List (Addr × Obj)), SSs (X.suite a pn) T W0 (b₀ :: suite) u) (hs : X.stack = X.env :: X.outer := by rfl) (hf : X.env.frame = some X.env.locals := by rfl) :
    SS X T W (.Try body [.ExceptHandler (some (.Name x np)) none (b₀ :: suite) pos'] [] [] pos) (sTry M t u) := by
  refine PS.weak (ps_try_only (Wout := W) (tb := fun W' => tXS T W' t) (ts := fun _ _ _ => tXS T W0 u) hs hf hn tk hb (fun a oe cls d pn _ _ => hsu a ((a, oe) :: pn))) fun K σ H ⟨G, B, Z, env, E, q⟩ => ⟨G, B, Z, env, E, ?_⟩
  unfold sTry at q
  cases ht : t env with
  | ex y e =>
    rw [ht] at q
    dsimp only at q
    cases hl : M.lookup y.c with
    | none => rw [hl] at q; exact q.elim
    | some k =>
      rw [hl] at q
      intro cls d σ' H' Z' s' E' r'
      obtain ⟨ec, r'⟩ := r'
      subst ec
      refine ⟨k, hM _ _ hl, fun hk a ha => ?_, fun hk => ?_⟩
      · subst hk
        refine ⟨G, B, Z', e, E', ?_⟩
        dsimp only at q
        cases hu : u e with
        | ex y2 e2 => rw [hu] at q; exact q.elim
        | no => rw [hu] at q; exact q.elim
        | nx e2 => rw [hu] at q; exact PRS.mono s' (r := .nx e2) q
        | bk e2 => rw [hu] at q; exact PRS.mono s' (r := .bk e2) q
        | ct e2 => rw [hu] at q; exact PRS.mono s' (r := .ct e2) q
        | rt r e2 => rw [hu] at q; exact PRS.mono s' (r := .rt r e2) q
      · subst hk
        exact q _ d σ' H' Z' s' E' ⟨rfl, r'⟩
  | _ => rw [ht] at q; exact q
end
end L2.S

set_option Elab.async false
set_option linter.all false
set_option maxRecDepth 100000
set_option maxHeartbeats 4000000
namespace L2.S
open PySem PySem.Spec PyProof.Rows
theorem ns_none {K : PySem.W.Frag} {h : Heap} {a : Addr} {m : Str → Option Value} {n : Str} (X : K.In h) (G : h.Ns a m) (e : PySem.W.nsIn K a n = some none) : m n = none := by
  obtain ⟨o, es, ep, ho, hd, _, hf⟩ := G
  unfold PySem.W.nsIn at e
  split at e
  · rename_i c d es' n' sl q
    have := X _ _ q
    rw [ho] at this
    cases this
    cases hd
    split at e
    · cases e
    · rename_i he
      rw [← hf]
      unfold nsFind PySem.findBy
      rw [← Array.find?_toList, he]
      rfl
  · cases e
structure SeerK (K : PySem.W.Frag) : Prop where
  c1 : PySem.W.nsIn K cStatics "sys.audit-hooks" = some none
  c2 : PySem.W.nsIn K cStatics "sys.dict" = some none
  m1 : PySem.W.nsIn K sysModules "_pylong" = some none
  m2 : ∃ c d es n sl, K.lookup sysModules = some ⟨c, d, .dict es n, sl⟩ ∧ (es.toList.all fun e => match e.key with | .str _ _ => true | _ => false) = true
  mn : ∃ bm ob sl, PySem.W.nsIn K mainGlobals "__builtins__" = some (some (.ref bm)) ∧ K.lookup bm = some ⟨.type "module", some builtinsNs, ob, sl⟩
theorem SeerK.no {K : PySem.W.Frag} {mg : Str → Option Value} {h : Heap} (S : SeerK K) (X : K.In h) (hl : h.NoLimit) (G : h.Ns mainGlobals mg) (hb : ∃ mb, h.Ns builtinsNs mb ∧ ∀ x : Str, x ≠ "__name__" → mb x = bootBuiltins x) : h.NoSeer where
  statics := let ⟨mc, n, _⟩ := hl; ⟨mc, n, ns_none X n S.c1, ns_none X n S.c2⟩
  mods := by
    obtain ⟨c, d, es, n, sl, e, k⟩ := S.m2
    have e' := X _ _ e
    have q : h.isNs sysModules = true := by
      unfold Heap.isNs
      rw [e']
      dsimp only
      rw [← Array.all_toList]
      exact k
    have N := Heap.Ns.of_isNs q
    exact ⟨_, N, ns_none X N S.m1⟩
  imp := hb
  main := by
    obtain ⟨bm, ob, sl, e1, e2⟩ := S.mn
    exact ⟨mg, bm, _, G, PySem.W.mg_of X G e1, X _ _ e2, rfl, rfl⟩
theorem seer_mk {K : PySem.W.Frag} {bm : Addr} {ob : Data} {sl : Array (Option Value)} {c : Value} {d : Option Addr} {es : Array DictEntry} {n : Nat} {sl2 : Array (Option Value)} (c1 : PySem.W.nsIn K cStatics "sys.audit-hooks" = some none) (c2 : PySem.W.nsIn K cStatics "sys.dict" = some none) (m1 : PySem.W.nsIn K sysModules "_pylong" = some none)
    (m2 : K.lookup sysModules = some ⟨c, d, .dict es n, sl2⟩) (mk : (es.toList.all fun e => match e.key with | .str _ _ => true | _ => false) = true) (b1 : PySem.W.nsIn K mainGlobals "__builtins__" = some (some (.ref bm))) (b2 : K.lookup bm = some ⟨.type "module", some builtinsNs, ob, sl⟩) : SeerK K :=
  ⟨c1, c2, m1, ⟨_, _, _, _, _, m2, mk⟩, _, _, _, b1, b2⟩
structure Seer (X : Cx) : Prop where
  k : SeerK X.K
  tree : X.prog.given.tree = none
  top : ∃ env l, X.stack = env :: l ∧ env.scope.isGenerator = false ∧ env.scope.isCoroutine = false ∧ env.builtins = builtinsNs ∧ env.globals = mainGlobals
  dep : Room 40 X.A
section
variable {X : Cx} {T : Tb} {W : WX} {a b c e : Expr} {es : List Expr} {f g h : Env' → R} {fa : Env' → RA} {pos p apos : Pos} {k : Nat} {φ : Fn} {x m : Str} {fx : Addr}
theorem op_div (S : Seer X) : OpR X (binaryOp .FloorDiv) (rI (fun _ j => j ≠ 0) fun i j => .int (i.fdiv j)) := by
  intro pins s σ H x y v u Q I rx ry h
  have key : PylongRoom (model X.prog X.w) X.A s := by
    obtain ⟨env, l, hs, h1, h2, h3, h4⟩ := S.top
    have hk := I.bk
    have nl := I.ok.mod.nolimit.keeps hk
    have ns : s.heap.NoSeer := (S.k.no I.ok.mod.kin I.ok.mod.nolimit I.ok.mod.glob I.ok.mod.blt).keeps hk
    have fr : X.A.frames = some (env :: l) := by rw [I.ok.frames, hs]
    have dp : X.A.depth + Builtin.pylongFrames < recursionLimit := by have := S.dep.dp; show X.A.depth + 100 < _; omega
    exact PylongRoom.of nl dp (SeerAt.of ns S.tree fr h1 h2 h3 h4)
  obtain ⟨i, j, rfl, rfl, hc, q⟩ := h
  obtain ⟨t, rfl⟩ := rx
  obtain ⟨t', rfl⟩ := ry
  exact floordiv_int hc ⟨.int (i.fdiv j), H, I.tok _, ⟨_, rfl⟩, q⟩ (.inr key)
def pDivG : D → D → Option RV := fun x y => match x, y with | .int i, .int j => if j = 0 then none else some (.d (.int (i.fdiv j))) | _, _ => none
theorem o_div (S : Seer X) : Op2 X T (binaryOp .FloorDiv) pDivG := op_flat (op_div S) fun G B Z H σ env x y dx dy w Q E r1 r2 e c => by
  unfold pDivG at e
  split at e
  · rename_i i j
    split at e
    · cases e
    · rename_i hj
      cases e
      cases r1
      cases r2
      exact ⟨i, j, rfl, rfl, hj, c _ H Z (Same.refl _) E (.int _)⟩
  · cases e
def sPar2 (i j : Nat) (fa : Env' → RA) : Env' → RS := fun env => match fa env with
  | .ok as e => (match avD as with
    | some [x, y] => if canSet e i && canSet (e.set i (.val x)) j then .nx ((e.set i (.val x)).set j (.val y)) else .no
    | _ => .no)
  | .ex x e => .ex x e
  | .no => .no
theorem ss_par2 {i j : Nat} {x y : Str} {px py pt : Pos} {kt k2 pt2} (hc : X.calm = true) (hN : X.N.Nodup) (ha : SA X T W [a, b] fa) (hi : X.N[i]? = some x := by rfl) (hj : X.N[j]? = some y := by rfl) (hij : i ≠ j := by decide)
    (hx : X.env.scope.names.lookup x = some .local := by rfl) (hy : X.env.scope.names.lookup y = some .local := by rfl)
    (hw : swappedStores [.Tuple [.Name x px, .Name y py] kt pt] (.Tuple [a, b] k2 pt2) X.env = pure (some [x, y]) := by rfl)
    (hs : swapsWithSole [.Tuple [.Name x px, .Name y py] kt pt] (.Tuple [a, b] k2 pt2) pos.line X.env = pure false := by rfl) :
    SS X T W (.Assign [.Tuple [.Name x px, .Name y py] kt pt] (.Tuple [a, b] k2 pt2) pos) (sPar2 i j fa) := by
  refine PS.weak (ps_par hc hN hi hj hij hx hy ha hw hs) fun K σ H ⟨G, B, Z, env, E, q⟩ => ?_
  show tXA T W fa σ H _
  refine ⟨G, B, Z, env, E, ?_⟩
  unfold sPar2 at q
  cases hf : fa env with
  | no => rw [hf] at q; exact q.elim
  | ex x e => rw [hf] at q; exact fun cls d H' Z' s' E' r' => q cls d σ H' Z' s' E' r'
  | ok as e =>
    rw [hf] at q
    dsimp only at q
    intro vs H1 Z1 s1 E1 r1
    split at q
    · rename_i dx dy hd
      have rs := r1.reps hd
      cases rs with
      | cons ra rs =>
        cases rs with
        | cons rb rs =>
          cases rs
          split at q
          · rename_i hcs
            rw [Bool.and_eq_true] at hcs
            have E2 := E1.store (r := .d dx) hcs.1 ra
            have E3 := E2.store (r := .d dy) hcs.2 rb
            exact ⟨_, _, rfl, q _ H1 Z1 s1 E3⟩
          · exact q.elim
    · exact q.elim
end
end L2.S

set_option Elab.async false
set_option linter.all false
set_option maxRecDepth 100000
set_option maxHeartbeats 4000000
namespace L2.S
open PySem PySem.Spec PyProof.Rows
def fnF (g : Env' → RS) (n m : Nat) : Fn := fun as => if as.length = m then bodyF g n as else .no
theorem fnF_hn {g : Env' → RS} {n m : Nat} : ∀ as, fnF g n m as ≠ .no → as.length = m ∧ bodyF g n as = fnF g n m as := fun as h => by
  unfold fnF at h ⊢
  by_cases q : as.length = m
  · rw [if_pos q]; exact ⟨q, rfl⟩
  · rw [if_neg q] at h; exact (h rfl).elim
section
variable {P : Program} {w : World} {K : PySem.W.Frag} {mg : Str → Option Value} {base : Heap} {T : Tb} {x qual : Str} {st : Stmt} {f : Addr} {fd : FuncData} {N ps : List Str} {k : Nat} {g : Env' → RS} {dvs : List V} {kws : List (Str × V)}
theorem fn_d {n m : Nat} (F : FunD K x qual (defArgs st) (defBody st) (defScope st) dvs kws f fd) (S : FnScope N ps (defScope st))
    (body : ∀ (cdv : Value) (A : Around) (outer : List Env) (s : Shared) (H : Hp) (E : XK), Room k (A.deeper (envOfC qual (defScope st) s.heap.objs.size f cdv)) →
      SSs (cxOf (L2.CX P w) P w K mg base N qual (defScope st) f cdv A outer s H E) T (fun cls d _ H => E cls d H) (defBody st) g) (hn : N.length = n := by rfl) (hm : ps.length = m := by rfl) :
    FnOk P w K mg base (L2.CX P w) (k + 1) f fd ps (sp T (fnF g n m)) := by
  subst hn; subst hm
  have hpl : ps.length ≤ N.length := by have := congrArg List.length S.pre; rw [List.length_take] at this; omega
  refine F.ok S (fun vs H Q E ⟨Z, as, s, A, q⟩ => ?_) (fun cdv A outer s H vs Q E hr ⟨Z, as, ss, AA, q⟩ => ⟨_, body cdv A outer s H E hr, ?_⟩)
  · rw [A.len]
    refine (fnF_hn (g := g) (n := N.length) as fun z => ?_).1
    rw [z] at q
    exact q
  · have hno : fnF g N.length ps.length as ≠ .no := fun z => by rw [z] at q; exact q
    obtain ⟨hl, hb⟩ := fnF_hn as hno
    refine ⟨⟨H, Z⟩, lentA vs as, Z, _, EOk.start ss AA (by rw [hl]; exact hpl), ?_⟩
    rw [← hb] at q
    unfold bodyF at q
    cases hg : g (as ++ List.replicate (N.length - as.length) .un) with
    | rt r e =>
      rw [hg] at q
      intro v σ' H' Z' s' E' r'
      refine q v H' Z' (E'.after AA s') ?_
      cases r with
      | d d => exact r'
      | o o =>
        obtain ⟨a, h, e1, e2, e3, e4, e5, _⟩ := r'
        exact ⟨a, h, e1, e2, e3, e4, e5⟩
    | nx e =>
      rw [hg] at q
      intro σ' H' Z' s' E'
      exact q .non H' Z' (E'.after AA s') .non
    | ex x e =>
      rw [hg] at q
      intro c d σ' H' Z' s' E' r'
      exact q c d H' Z' (E'.after AA s') r'
    | bk e => rw [hg] at q; exact q.elim
    | ct e => rw [hg] at q; exact q.elim
    | no => rw [hg] at q; exact q.elim
theorem fn_no (F : FunD K x qual (defArgs st) (defBody st) (defScope st) dvs kws f fd) (ps : List Str) : FnOk P w K mg base (L2.CX P w) k f fd ps (sp T (fun _ => .no)) :=
  ⟨fun vs H Q E ⟨Z, as, s, A, q⟩ => q.elim, fun _ _ _ _ _ _ _ _ _ _ _ _ _ ⟨Z, as, s, A, q⟩ => q.elim⟩
theorem fnc_all {φ : Fn} (F : FunD K x qual (defArgs st) (defBody st) (defScope st) [] kws f fd) (ok : FnOk P w K mg base (L2.CX P w) k f fd ps (sp T φ))
    (h : ∀ (kV doc pm : Value) (an : Option Addr) (cdv ct : Value) (us : List Value), us.length = ps.length → bindArgs (PySem.W.fnOf x qual (defArgs st) (defBody st) (defScope st) .none kV doc pm an cdv ct) ⟨us, []⟩ = pure (ps.zip us)) : FnC P w K mg base T k φ [] f :=
  ⟨⟨fd, ps, [], [], ok, F.bindsN h, .nil, fun _ => .nil⟩, F.kp⟩
theorem fnc_dfl {φ : Fn} {dds : List D} (F : FunD K x qual (defArgs st) (defBody st) (defScope st) dvs kws f fd) (ok : FnOk P w K mg base (L2.CX P w) k f fd ps (sp T φ)) (n j : Nat) (hd : dvs ≠ []) (hn : n + (dvs.length - j) = ps.length) (dfl : Dfl T (dvs.drop j) dds)
    (h : ∀ (T : Addr) (kV doc pm : Value) (an : Option Addr) (cdv ct : Value) (us its : List Value), us.length = n → its.length = dvs.length →
      ∃ k, bindArgs (PySem.W.fnOf x qual (defArgs st) (defBody st) (defScope st) (.ref T) kV doc pm an cdv ct) ⟨us, []⟩ = seqItems? (.ref T) >>= k ∧ k (some its.toArray) = pure (ps.zip (us ++ its.drop j))) : FnC P w K mg base T k φ dds f := by
  obtain ⟨ds, hv, hb⟩ := F.binds1 n j hd hn h
  exact ⟨⟨fd, ps, _, ds, ok, hb, hv, dfl⟩, F.kp⟩
end
theorem fun0 {K : PySem.W.Frag} {x qual : Str} {st : Stmt} {f : Addr} {oc : Value} {od an : Option Addr} {osl : Array (Option Value)} {kV doc pm cdv ct : Value} (l : K.lookup f = some ⟨oc, od, .func (PySem.W.fnOf x qual (defArgs st) (defBody st) (defScope st) .none kV doc pm an cdv ct), osl⟩)
    (c : PySem.W.codeIn K cdv qual = true) (k : PySem.W.keepIn K (.ref f) = true) : ∃ fd, FunD K x qual (defArgs st) (defBody st) (defScope st) [] [] f fd := ⟨_, ⟨oc, od, .none, kV, doc, pm, an, cdv, ct, osl, rfl, l, c, .inl ⟨rfl, rfl⟩, .inl rfl⟩, k⟩
theorem fun1 {K : PySem.W.Frag} {x qual : Str} {st : Stmt} {f D : Addr} {oc oc2 : Value} {od od2 an : Option Addr} {osl osl2 : Array (Option Value)} {kV doc pm cdv ct : Value} {its : List Value} {n : Nat} {dvs : List V} (l : K.lookup f = some ⟨oc, od, .func (PySem.W.fnOf x qual (defArgs st) (defBody st) (defScope st) (.ref D) kV doc pm an cdv ct), osl⟩)
    (c : PySem.W.codeIn K cdv qual = true) (k : PySem.W.keepIn K (.ref f) = true) (l2 : K.lookup D = some ⟨oc2, od2, .seq its.toArray n, osl2⟩) (hv : Vals dvs its) (hd : dvs ≠ []) : ∃ fd, FunD K x qual (defArgs st) (defBody st) (defScope st) dvs [] f fd := ⟨_, ⟨oc, od, .ref D, kV, doc, pm, an, cdv, ct, osl, rfl, l, c, .inr ⟨hd, D, _, its, n, rfl, l2, rfl, hv⟩, .inl rfl⟩, k⟩
end L2.S

set_option Elab.async false
set_option linter.all false
set_option maxRecDepth 100000
set_option maxHeartbeats 4000000
namespace L2.S
open PySem PySem.Spec PyProof.Rows
def kitTs (a : String) : List String → Option Bool
  | [] => some false
  | c :: r => match kitB a c with | some true => some true | some false => kitTs a r | none => none
theorem kit_tys {K : PySem.W.Frag} {a : String} : ∀ {cs : List String} {b : Bool}, kitTs a cs = some b → PySem.W.kitAny K (.type a) (cs.map .type) = some b
  | [], b, h => h
  | c :: r, b, h => by
    unfold kitTs at h
    split at h
    · rename_i e
      cases h
      exact kitAny_cons (kit_ty e) (fun z => nomatch z) fun _ => rfl
    · rename_i e
      exact kitAny_cons (kit_ty e) (fun _ => kit_tys h) (fun z => nomatch z)
    · cases h
def sizD : D → Nat
  | .int i => i.natAbs
  | .str l => l.length
  | .tup xs => xs.length
  | .lst xs => xs.length
  | .ro xs => xs.length
  | _ => 0
def sizV : SV → Nat
  | .un => 0
  | .val d => sizD d
  | .own _ (.l xs) => xs.length
  | .own _ (.s _ _) => 0
def fuelE (e : Env') : Nat := 1 + (e.map sizV).sum
theorem fnF_at {g : Env' → RS} {n m : Nat} {as : List SV} (h : as.length = m) : fnF g n m as = bodyF g n as := by unfold fnF; rw [if_pos h]
end L2.S
namespace L2.S
open PySem PySem.Spec PyProof.Rows
theorem FnOkMono {P : Program} {w : World} {K : PySem.W.Frag} {mg : Str → Option Value} {base : Heap} {CX : CXT} {k j : Nat} {f : Addr} {fd : FuncData} {ps : List Str} {s : Sp} (F : FnOk P w K mg base CX k f fd ps s) (h : k ≤ j) : FnOk P w K mg base CX j f fd ps s :=
  ⟨F.len, fun A outer s H as us vs Q E hr => F.run A outer s H as us vs Q E (hr.mono h)⟩
end L2.S

set_option Elab.async false
set_option linter.all false
set_option maxRecDepth 100000
set_option maxHeartbeats 4000000
namespace L2.S
open PySem PySem.Spec PyProof.Rows
def spL (K : PySem.W.Frag) : Sp := fun vs H Q _ => ∃ (a : Addr) (ns : List Int), vs = [.ref a] ∧ SqL K H a (ns.map V.int) ∧ ns.length ≤ 63 ∧ (∀ z ∈ ns, Builtin.Int.intBits z ≤ 1048576) ∧ ∀ H', Q (.bl true) H'
theorem reps_ints {T : Tb} {Z : Hp} : ∀ ns : List Int, Reps T Z (ns.map V.int) (ns.map D.int)
  | [] => .nil
  | n :: ns => .cons (.int n) (reps_ints ns)
theorem spL_sp {T : Tb} {φ : Fn} (law : ∀ ns : List Int, ns.length ≤ 63 → (∀ z ∈ ns, Builtin.Int.intBits z ≤ 1048576) → ∃ outs, φ [.val (.ro (ns.map D.int))] = .ok (.d (.bl true)) outs)
    (vs : List V) (H : Hp) (Q : VK) (E : XK) (h : spL T.K vs H Q E) : sp T φ vs H Q E := by
  obtain ⟨a, ns, rfl, hs, hl, hb, q⟩ := h
  obtain ⟨outs, e⟩ := law ns hl hb
  refine ⟨H, [.val (.ro (ns.map D.int))], Same.refl _, ⟨rfl, fun i d h => ?_, fun i b o h => ?_, fun i j a n h => ?_⟩, ?_⟩
  · cases i with
    | zero => simp at h; subst h; exact ⟨.ref a, rfl, .ro hs (reps_ints ns)⟩
    | succ i => simp at h
  · cases i with
    | zero => simp at h
    | succ i => simp at h
  · obtain ⟨⟨b, o, h⟩, _⟩ := mem_lentA.mp h
    cases i with
    | zero => simp at h
    | succ i => simp at h
  · rw [e]
    intro v H' Z' Af r
    cases r
    exact q H'
theorem fnOk_weak {P : Program} {w : World} {K : PySem.W.Frag} {mg : Str → Option Value} {base : Heap} {CX : CXT} {k : Nat} {f : Addr} {fd : FuncData} {ps : List Str} {s s' : Sp} (F : FnOk P w K mg base CX k f fd ps s) (h : ∀ vs H Q E, s' vs H Q E → s vs H Q E) : FnOk P w K mg base CX k f fd ps s' :=
  ⟨fun vs H Q E x => F.len vs H Q E (h _ _ _ _ x), fun A outer s H as us vs Q E hr e0 b r x => F.run A outer s H as us vs Q E hr e0 b r (h _ _ _ _ x)⟩
theorem walk_S {l : PySem.W.OpenLaw} {k : Nat} {q : Program} {loose : List Str} {XP : (Str → Option Value) → Heap → Prop} {YP : World → Heap → Prop} {d : DefRec} {K : Params → PySem.W.Frag} {φ : Fn}
    (hn : l.most = some 63) (hdf : d.params.defaults = []) (hr : Room k callerA)
    (hY : ∀ (w : World) (h : Heap), YP w h → (K w.params).In h)
    (law : ∀ ns : List Int, ns.length ≤ 63 → (∀ z ∈ ns, Builtin.Int.intBits z ≤ 1048576) → ∃ outs, φ [.val (.ro (ns.map D.int))] = .ok (.d (.bl true)) outs)
    (F : ∀ (w : World) (mg : Str → Option Value) (fa : Addr) (h : Heap), (K w.params).In h → h.Ns mainGlobals mg → mg d.name = some (.ref fa) →
      ∃ (T : Tb) (fd : FuncData), T.K = K w.params ∧ (∀ (s : Shared) (u : Value), BindsTo s fd ⟨[u], []⟩ [("script", u)]) ∧
        ∀ base : Heap, (K w.params).In base → base.Ns mainGlobals mg → FnOk l.prog w (K w.params) mg base (L2.CX l.prog w) k fa fd ["script"] (sp T φ)) :
    PySem.W.WalkO q loose XP YP l.row.toRowW d [] (fun f vs => PySem.call f vs) := by
  refine walk_ofB (x := "script") (K := K) (CX := fun w => L2.CX l.prog w) (sp := fun w => spL (K w.params)) hn (by decide) hdf hr hY (fun w mg fa h X G e => ?_) (fun w H a ns h1 h2 h3 h4 => ⟨a, ns, rfl, h4, h1, h2, fun _ => rfl⟩) fun w H s e s' c => ?_
  · obtain ⟨T, fd, hK, hb, hF⟩ := F w mg fa h X G e
    refine ⟨fd, hb, fun base X G => fnOk_weak (hF base X G) fun vs H Q E x => spL_sp law vs H Q E ?_⟩
    rw [hK]
    exact x
  · obtain ⟨_, _, _, _, _, _, _, _, _, _, _, _, z⟩ := c
    exact z.elim
end L2.S
namespace L2.S
open PySem PySem.Spec PyProof.Rows
theorem funD_one {K : PySem.W.Frag} {x qual : Str} {p : Arguments} {b : List Stmt} {sc : Scope} {dvs : List V} {kws : List (Str × V)} {f : Addr} {fd fd2 : FuncData} (F2 : FunD K x qual p b sc dvs kws f fd2) (F : FunD K x qual p b sc dvs kws f fd) : fd2 = fd := by
  obtain ⟨_, _, _, _, _, _, _, _, _, _, _, l, _⟩ := F.ex
  obtain ⟨_, _, _, _, _, _, _, _, _, _, _, l2, _⟩ := F2.ex
  rw [l] at l2
  cases l2
  rfl
end L2.S

set_option Elab.async false
set_option linter.all false
set_option maxRecDepth 100000
set_option maxHeartbeats 4000000
namespace L2.S
theorem seq_nx {t u : Env' → RS} {e e' : Env'} (h : t e = .nx e') : sSeq t u e = u e' := by unfold sSeq; rw [h]
theorem seq_rt {t u : Env' → RS} {e e' : Env'} {r : RV} (h : t e = .rt r e') : sSeq t u e = .rt r e' := by unfold sSeq; rw [h]
theorem seq_ex {t u : Env' → RS} {e e' : Env'} {x : Ex} (h : t e = .ex x e') : sSeq t u e = .ex x e' := by unfold sSeq; rw [h]
theorem forL_run {h : D → Env' → Option Env'} {t : Env' → RS} (P : Nat → Env' → Prop) : ∀ (ds : List D) (k : Nat) (e : Env'), P k e →
    (∀ i d e, ds[i]? = some d → P (k + i) e → ∃ e1, h d e = some e1 ∧ ∃ e2, (t e1 = .nx e2 ∨ t e1 = .ct e2) ∧ P (k + i + 1) e2) → ∃ e', forL h t ds e = .nx e' ∧ P (k + ds.length) e'
  | [], k, e, p, _ => ⟨e, rfl, p⟩
  | d :: ds, k, e, p, st => by
    obtain ⟨e1, h1, e2, h2, p2⟩ := st 0 d e rfl p
    obtain ⟨e', h3, p3⟩ := forL_run P ds (k + 1) e2 p2 fun i d' e0 hd pe => by
      have := st (i + 1) d' e0 (by simpa using hd) (by rw [show k + (i + 1) = k + 1 + i by omega]; exact pe)
      rw [show k + (i + 1) + 1 = k + 1 + i + 1 by omega] at this
      exact this
    refine ⟨e', ?_, by rw [List.length_cons, show k + (ds.length + 1) = k + 1 + ds.length by omega]; exact p3⟩
    unfold forL
    rw [h1]
    dsimp only
    rcases h2 with h2 | h2 <;> (rw [h2]; exact h3)
theorem for_run {f : Env' → RI} {h : D → Env' → Option Env'} {t : Env' → RS} {env e0 : Env'} {ds : List D} (P : Nat → Env' → Prop) (hf : f env = .ok ds e0) (p : P 0 e0)
    (st : ∀ i d e, ds[i]? = some d → P i e → ∃ e1, h d e = some e1 ∧ ∃ e2, (t e1 = .nx e2 ∨ t e1 = .ct e2) ∧ P (i + 1) e2) : ∃ e', sFor f h t env = .nx e' ∧ P ds.length e' := by
  obtain ⟨e', h1, h2⟩ := forL_run (h := h) (t := t) P ds 0 e0 p fun i d e hd pe => by
    rw [Nat.zero_add] at pe ⊢
    exact st i d e hd pe
  refine ⟨e', ?_, by rw [Nat.zero_add] at h2; exact h2⟩
  unfold sFor
  rw [hf]
  exact h1
theorem whL_run {c : Env' → RT} {t : Env' → RS} (P Q : Env' → Prop) (m : Env' → Nat) (st : ∀ e, P e → (∃ e1, c e = .ok false e1 ∧ Q e1) ∨ (∃ e1 e2, c e = .ok true e1 ∧ (t e1 = .nx e2 ∨ t e1 = .ct e2) ∧ P e2 ∧ m e2 < m e)) : ∀ (n : Nat) (e : Env'), P e → m e < n → ∃ e', whL c t n e = .nx e' ∧ Q e'
  | 0, e, _, h => by omega
  | n + 1, e, p, h => by
    rcases st e p with ⟨e1, h1, q⟩ | ⟨e1, e2, h1, h2, p2, hm⟩
    · exact ⟨e1, by unfold whL; rw [h1], q⟩
    · obtain ⟨e', h3, q⟩ := whL_run P Q m st n e2 p2 (by omega)
      refine ⟨e', ?_, q⟩
      unfold whL
      rw [h1]
      dsimp only
      rcases h2 with h2 | h2 <;> (rw [h2]; exact h3)
theorem mulOk_lt {i j : Int} {a b : Nat} (h1 : i.natAbs < 2 ^ a) (h2 : j.natAbs < 2 ^ b) (h : a + b ≤ 100000000) (ha : 0 < a) (hb : 0 < b) : mulOk i j = true := by
  have l : ∀ (x c : Nat), x < 2 ^ c → 0 < c → x.log2 < c := fun x c hx hc => by
    by_cases hx0 : x = 0
    · subst hx0; rw [Nat.log2_zero]; exact hc
    · exact (Nat.log2_lt hx0).mpr hx
  unfold mulOk
  exact decide_eq_true (by have := l _ _ h1 ha; have := l _ _ h2 hb; omega)
theorem natAbs_mul_lt {i j : Int} {a b : Nat} (h1 : i.natAbs < 2 ^ a) (h2 : j.natAbs < 2 ^ b) : (i * j).natAbs < 2 ^ (a + b) := by
  rw [Int.natAbs_mul, Nat.pow_add]
  exact Nat.mul_lt_mul'' h1 h2
theorem natAbs_add_lt {i j : Int} {a : Nat} (h1 : i.natAbs < 2 ^ a) (h2 : j.natAbs < 2 ^ a) : (i + j).natAbs < 2 ^ (a + 1) := by
  have := Int.natAbs_add_le i j
  rw [Nat.pow_succ]
  omega
theorem natAbs_sub_lt {i j : Int} {a : Nat} (h1 : i.natAbs < 2 ^ a) (h2 : j.natAbs < 2 ^ a) : (i - j).natAbs < 2 ^ (a + 1) := by
  have := Int.natAbs_sub_le i j
  rw [Nat.pow_succ]
  omega
theorem natAbs_le_pow {i : Int} {a b : Nat} (h1 : i.natAbs < 2 ^ a) (h : a ≤ b) : i.natAbs < 2 ^ b := Nat.lt_of_lt_of_le h1 (Nat.pow_le_pow_right (by decide) h)
theorem bits_lt {z : Int} {k : Nat} (h : PySem.Builtin.Int.intBits z ≤ k) : z.natAbs < 2 ^ k := by
  unfold PySem.Builtin.Int.intBits at h
  split at h
  · rename_i h0
    have : z = 0 := by simpa using h0
    subst this
    exact Nat.two_pow_pos k
  · rename_i h0
    have hz : z.natAbs ≠ 0 := by simpa using h0
    exact (Nat.log2_lt hz).mp (by omega)
end L2.S

set_option Elab.async false
set_option linter.all false
set_option maxRecDepth 100000
set_option maxHeartbeats 4000000
namespace L2.S
theorem Zin (a b : Int) : pAdd (.int a) (.int b) = some (.d (.int (a + b))) := rfl
theorem Zio (a b : Int) : pSubI (.int a) (.int b) = some (.d (.int (a - b))) := rfl
theorem mul_ii {a b : Int} (h : mulOk a b = true) : pMul (.int a) (.int b) = some (.d (.int (a * b))) := by
  show orP (pI mulOk fun i j => .int (i * j)) _ (.int a) (.int b) = _
  unfold orP pI
  dsimp only
  rw [if_pos h]
theorem mod_ii {a b : Int} (h : 0 < b) : pModI (.int a) (.int b) = some (.d (.int (a % b))) := by
  show pI posOk _ (.int a) (.int b) = _
  unfold pI
  dsimp only
  rw [if_pos (show posOk a b = true from decide_eq_true h)]
theorem div_ii {a b : Int} (h : b ≠ 0) : pDivG (.int a) (.int b) = some (.d (.int (a.fdiv b))) := by
  unfold pDivG
  dsimp only
  rw [if_neg h]
theorem pow_ii {a b : Int} (h : powOk a b = true) : pPowI (.int a) (.int b) = some (.d (.int (a ^ b.toNat))) := by
  show pI powOk _ (.int a) (.int b) = _
  unfold pI
  dsimp only
  rw [if_pos h]
theorem Ziq (a b : Int) : pLt (.int a) (.int b) = some (.d (.bl (decide (a < b)))) := rfl
theorem Zir (a b : Int) : pLe (.int a) (.int b) = some (.d (.bl (decide (a ≤ b)))) := rfl
theorem Zis (a b : Int) : pGt (.int a) (.int b) = some (.d (.bl (decide (b < a)))) := rfl
theorem Zit (a b : Int) : pGe (.int a) (.int b) = some (.d (.bl (decide (b ≤ a)))) := rfl
theorem Ziu (a b : Int) : pEq false (.int a) (.int b) = some (.d (.bl (a == b))) := rfl
theorem Ziv (a b : Int) : pEq true (.int a) (.int b) = some (.d (.bl (!(a == b)))) := rfl
theorem orP_ii {p q : D → D → Option RV} {x y : D} {r : RV} (h : p x y = some r) : orP p q x y = some r := by unfold orP; rw [h]
theorem orP_n {p q : D → D → Option RV} {x y : D} (h : p x y = none) : orP p q x y = q x y := by unfold orP; rw [h]
theorem eqX_i (a : Int) (y : D) : pEqX (.int a) y = none := rfl
theorem eqM_i {neg : Bool} {M : List (Nat × Fn × List Nat)} {q : D → D → Option RV} (a : Int) (y : D) (e : Env') : pEqM neg M q (.int a) y e = ofOp q (.int a) y e := rfl
theorem own_i {M : List (Nat × Fn)} {q : D → D → Option RV} (a : Int) (y : D) (e : Env') : pOwn M q (.int a) y e = ofOp q (.int a) y e := rfl
theorem own_oo {M : List (Nat × Fn)} {q : D → D → Option RV} (c : Nat) (xs ys : List D) (e : Env') : pOwn M q (.obj c xs) (.obj c ys) e = (match M.lookup c with | some φ => callR φ [] [.d (.obj c xs), .d (.obj c ys)] e | none => .no) := by
  show (if c = c then _ else _) = _
  rw [if_pos rfl]
  all_goals rfl
theorem ix_lI (rs : List Int) (k : Nat) (h : k < rs.length) : ixD (.lst (rs.map D.int)) (.int k) = some (.int rs[k]) := by
  show atI (rs.map D.int) (k : Int) = _
  unfold atI ixN
  simp [h]
def startE (as : List SV) (n : Nat) : Env' := as ++ List.replicate (n - as.length) .un
def endF (as : List SV) : RS → RF
  | .rt r e => .ok r (outsA 0 as e)
  | .nx e => .ok (.d .non) (outsA 0 as e)
  | .ex x e => .ex x (outsA 0 as e)
  | _ => .no
theorem fnF_run {g : Env' → RS} {n m : Nat} {as : List SV} (h : as.length = m := by rfl) : fnF g n m as = endF as (g (startE as n)) := by
  unfold fnF
  rw [if_pos h]
  unfold bodyF endF startE
  cases g (as ++ List.replicate (n - as.length) SV.un) <;> rfl
theorem fnF_rt {g : Env' → RS} {n m : Nat} {as : List SV} {e e1 : Env'} {r : RV} {o : List (Nat × OB)} (h : as.length = m) (hs : startE as n = e) (hg : g e = .rt r e1) (ho : outsA 0 as e1 = o) : fnF g n m as = .ok r o := by
  rw [fnF_run h, hs, hg]
  show RF.ok r (outsA 0 as e1) = _
  rw [ho]
theorem fnF_nx {g : Env' → RS} {n m : Nat} {as : List SV} {e e1 : Env'} {o : List (Nat × OB)} (h : as.length = m) (hs : startE as n = e) (hg : g e = .nx e1) (ho : outsA 0 as e1 = o) : fnF g n m as = .ok (.d .non) o := by
  rw [fnF_run h, hs, hg]
  show RF.ok _ (outsA 0 as e1) = _
  rw [ho]
theorem fnF_ex {g : Env' → RS} {n m : Nat} {as : List SV} {e e1 : Env'} {x : Ex} {o : List (Nat × OB)} (h : as.length = m) (hs : startE as n = e) (hg : g e = .ex x e1) (ho : outsA 0 as e1 = o) : fnF g n m as = .ex x o := by
  rw [fnF_run h, hs, hg]
  show RF.ex x (outsA 0 as e1) = _
  rw [ho]
end L2.S
namespace L2.S
theorem gN_at {i : Nat} {d : D} {e : Env'} (h : canSet e i = true) : gN i d e = some (e.set i (.val d)) := by unfold gN; rw [if_pos h]
def Fr1 (x : SV) : Prop := x = .un ∨ ∃ d, x = .val d
theorem Fr1.un : Fr1 .un := .inl rfl
theorem Fr1.val {d : D} : Fr1 (.val d) := .inr ⟨d, rfl⟩
theorem Fr1.can {x : SV} {e : Env'} {i : Nat} (hx : Fr1 x) (h : e[i]? = some x) : canSet e i = true := by
  unfold canSet
  rw [h]
  rcases hx with rfl | ⟨d, rfl⟩ <;> rfl
theorem smI_ok {n : Nat} (h : n ≤ 16777216) : smI (n : Int) = true := by
  unfold smI
  simp
  omega
def lsI (rs : List Int) : List D := rs.map D.int
theorem lsI_app (rs : List Int) (r : Int) : lsI rs ++ [D.int r] = lsI (rs ++ [r]) := by simp [lsI]
theorem lsI_len (rs : List Int) : (lsI rs).length = rs.length := by simp [lsI]
theorem rngD_0 (n : Nat) : rngD 0 (n : Int) = (List.range n).map fun (i : Nat) => D.int (i : Int) := by
  unfold rngD
  simp
theorem rng_get {n i : Nat} {d : D} (h : ((List.range n).map fun (i : Nat) => D.int (i : Int))[i]? = some d) : i < n ∧ d = .int (i : Int) := by
  have hi := (List.getElem?_eq_some_iff.mp h).1
  simp at hi
  rw [List.getElem?_map, List.getElem?_range hi] at h
  exact ⟨hi, (Option.some.inj h).symm⟩
end L2.S
namespace L2.S
theorem outsA_val : ∀ (ds : List D) (k : Nat) (e : Env'), outsA k (ds.map .val) e = []
  | [], _, _ => rfl
  | d :: ds, k, [] => rfl
  | d :: ds, k, x :: e => by
    show outsA (k + 1) (ds.map .val) e = []
    exact outsA_val ds (k + 1) e
end L2.S
namespace L2.S
theorem iR1_at {fa : Env' → RA} {e e' : Env'} {n : Nat} (h : fa e = .ok [.d (.int (n : Int))] e') (hn : n ≤ 16777216) : iR1 fa e = .ok ((List.range n).map fun (i : Nat) => D.int (i : Int)) e' := by
  have q := smI_ok hn
  unfold iR1 RA.bindI
  rw [h]
  dsimp only [avI, Option.map]
  rw [if_pos q, rngD_0]
end L2.S
namespace L2.S
theorem if_t {c : Env' → RT} {t u : Env' → RS} {e e' : Env'} (h : c e = .ok true e') : sIf c t u e = t e' := by unfold sIf RT.bindS; rw [h]; exact if_pos rfl
theorem if_f {c : Env' → RT} {t u : Env' → RS} {e e' : Env'} (h : c e = .ok false e') : sIf c t u e = u e' := by unfold sIf RT.bindS; rw [h]; exact if_neg Bool.false_ne_true
end L2.S
namespace L2.S
theorem if_fn {c : Env' → RT} {t : Env' → RS} {e e' : Env'} (h : c e = .ok false e') : sIf c t sNx e = .nx e' := (if_f h).trans rfl
end L2.S
namespace L2.S
theorem meth_at {c : Nat} {φ : Fn} {dds : List D} {f : Env' → R} {fa : Env' → RA} {e e1 e2 : Env'} {xs : List D} {as : List AV} {r : R} (h1 : f e = .ok (.d (.obj c xs)) e1) (h2 : fa e1 = .ok as e2) (h3 : callR φ dds (.d (.obj c xs) :: as) e2 = r) : cMeth c φ dds f fa e = r := by
  unfold cMeth
  rw [h1]
  show (if c = c then _ else _) = _
  rw [if_pos rfl, h2]
  exact h3
theorem ad_at {f : Env' → R} {fa : Env' → RA} {e e1 e2 : Env'} {d : D} {as : List AV} (h1 : f e = .ok (.d d) e1) (h2 : fa e1 = .ok as e2) : cAd f fa e = .ok (.d d :: as) e2 := by
  unfold cAd
  rw [h1]
  show (match fa e1 with | .ok as e' => RA.ok (.d d :: as) e' | .ex x e' => .ex x e' | .no => .no) = _
  rw [h2]
theorem ret_at {f : Env' → R} {e e1 : Env'} {r : RV} (h1 : f e = .ok r e1) : sRet f e = .rt r e1 := by
  unfold sRet
  rw [h1]
  rfl
end L2.S
namespace L2.S
theorem call_1 {φ : Fn} {x : D} {r : RV} {e : Env'} (q : φ [.val x] = .ok r []) : callR φ [] [.d x] e = .ok r e := by
  show (if ([] : List Nat).Nodup then (match φ [.val x] with | .ok r outs => R.ok r (putA 0 e outs [.d x]) | .ex x outs => .ex x (putA 0 e outs _) | .no => .no) else .no) = _
  rw [if_pos List.nodup_nil, q]
  rfl
theorem call_2 {φ : Fn} {x y : D} {r : RV} {e : Env'} (q : φ [.val x, .val y] = .ok r []) : callR φ [] [.d x, .d y] e = .ok r e := by
  show (if ([] : List Nat).Nodup then (match φ [.val x, .val y] with | .ok r outs => R.ok r (putA 0 e outs [.d x, .d y]) | .ex x outs => .ex x (putA 0 e outs _) | .no => .no) else .no) = _
  rw [if_pos List.nodup_nil, q]
  rfl
theorem call_3 {φ : Fn} {x y z : D} {r : RV} {e : Env'} (q : φ [.val x, .val y, .val z] = .ok r []) : callR φ [] [.d x, .d y, .d z] e = .ok r e := by
  show (if ([] : List Nat).Nodup then (match φ [.val x, .val y, .val z] with | .ok r outs => R.ok r (putA 0 e outs [.d x, .d y, .d z]) | .ex x outs => .ex x (putA 0 e outs _) | .no => .no) else .no) = _
  rw [if_pos List.nodup_nil, q]
  rfl
theorem call_4 {φ : Fn} {x y z w : D} {r : RV} {e : Env'} (q : φ [.val x, .val y, .val z, .val w] = .ok r []) : callR φ [] [.d x, .d y, .d z, .d w] e = .ok r e := by
  show (if ([] : List Nat).Nodup then (match φ [.val x, .val y, .val z, .val w] with | .ok r outs => R.ok r (putA 0 e outs [.d x, .d y, .d z, .d w]) | .ex x outs => .ex x (putA 0 e outs _) | .no => .no) else .no) = _
  rw [if_pos List.nodup_nil, q]
  rfl
theorem call_at {φ : Fn} {dds : List D} {fa : Env' → RA} {e e1 : Env'} {as : List AV} {r : R} (h2 : fa e = .ok as e1) (h3 : callR φ dds as e1 = r) : cCall φ dds fa e = r := by
  unfold cCall RA.bind
  rw [h2]
  exact h3
end L2.S

set_option Elab.async false
set_option linter.all false
set_option maxRecDepth 100000
set_option maxHeartbeats 4000000
namespace L2.S
structure Pin {α : Type} (a : α) : Type where
  mk ::
def wp {γ : Type} (f : Env' → γ) (e : Env') (Q : γ → Prop) (_ : Pin (f, e, Q) := ⟨⟩) : Prop := Q (f e)
theorem wp_k {γ : Type} {f : Env' → γ} {e : Env'} {Q Q' : γ → Prop} (h : Q = Q') : wp f e Q = wp f e Q' := by rw [h]
class Out (γ : Type) where
  ex : Ex → Env' → γ
  no : γ
instance : Out R := ⟨.ex, .no⟩
instance : Out RT := ⟨.ex, .no⟩
instance : Out RA := ⟨.ex, .no⟩
instance : Out RS := ⟨.ex, .no⟩
instance : Out RI := ⟨.ex, .no⟩
section
variable {γ : Type} [Out γ]
def bK (Q : γ → Prop) (k : D → Env' → Prop) : R → Prop
  | .ok (.d d) e => k d e
  | .ok (.o (.l xs)) e => k (.lst xs) e
  | .ok (.o (.s _ _)) _ => Q Out.no
  | .ex x e => Q (Out.ex x e)
  | .no => Q Out.no
def rvK (Q : γ → Prop) (k : RV → Env' → Prop) : R → Prop
  | .ok r e => k r e
  | .ex x e => Q (Out.ex x e)
  | .no => Q Out.no
def tK (Q : γ → Prop) (k : Bool → Env' → Prop) : RT → Prop
  | .ok b e => k b e
  | .ex x e => Q (Out.ex x e)
  | .no => Q Out.no
def aK (Q : γ → Prop) (k : List AV → Env' → Prop) : RA → Prop
  | .ok b e => k b e
  | .ex x e => Q (Out.ex x e)
  | .no => Q Out.no
def iK (Q : γ → Prop) (k : List D → Env' → Prop) : RI → Prop
  | .ok b e => k b e
  | .ex x e => Q (Out.ex x e)
  | .no => Q Out.no
def oK {α : Type} (o : Option α) (N : Prop) (k : α → Prop) (_ : Pin (N, k) := ⟨⟩) : Prop := match o with | some a => k a | none => N
def iteK (b : Bool) (A B : Prop) (_ : Pin (A, B) := ⟨⟩) : Prop := if b = true then A else B
def rK (r : R) (Q : R → Prop) (_ : Pin (r, Q) := ⟨⟩) : Prop := Q r
section
variable {Q : γ → Prop}
theorem Zaa {k : D → Env' → Prop} {d e} : bK Q k (.ok (.d d) e) = k d e := rfl
theorem Zab {k : D → Env' → Prop} {xs e} : bK Q k (.ok (.o (.l xs)) e) = k (.lst xs) e := rfl
theorem Zac {k : D → Env' → Prop} {x e} : bK Q k (.ex x e) = Q (Out.ex x e) := rfl
theorem Zad {k : D → Env' → Prop} : bK Q k .no = Q Out.no := rfl
theorem Zae {k : RV → Env' → Prop} {r e} : rvK Q k (.ok r e) = k r e := rfl
theorem Zaf {k : RV → Env' → Prop} {x e} : rvK Q k (.ex x e) = Q (Out.ex x e) := rfl
theorem Zag {k : RV → Env' → Prop} : rvK Q k .no = Q Out.no := rfl
theorem Zah {k : Bool → Env' → Prop} {r e} : tK Q k (.ok r e) = k r e := rfl
theorem Zai {k : Bool → Env' → Prop} {x e} : tK Q k (.ex x e) = Q (Out.ex x e) := rfl
theorem Zaj {k : Bool → Env' → Prop} : tK Q k .no = Q Out.no := rfl
theorem Zak {k : List AV → Env' → Prop} {r e} : aK Q k (.ok r e) = k r e := rfl
theorem Zal {k : List AV → Env' → Prop} {x e} : aK Q k (.ex x e) = Q (Out.ex x e) := rfl
theorem Zam {k : List AV → Env' → Prop} : aK Q k .no = Q Out.no := rfl
theorem Zan {k : List D → Env' → Prop} {r e} : iK Q k (.ok r e) = k r e := rfl
theorem Zao {k : List D → Env' → Prop} {x e} : iK Q k (.ex x e) = Q (Out.ex x e) := rfl
theorem Zap {k : List D → Env' → Prop} : iK Q k .no = Q Out.no := rfl
theorem Zaq {α : Type} {a : α} {N : Prop} {k : α → Prop} : oK (some a) N k = k a := rfl
theorem Zar {α : Type} {N : Prop} {k : α → Prop} : oK none N k = N := rfl
theorem Zas {A B : Prop} : iteK true A B = A := rfl
theorem Zat {A B : Prop} : iteK false A B = B := rfl
theorem Zig : (Out.ex : Ex → Env' → R) = R.ex := rfl
theorem Zih : (Out.ex : Ex → Env' → RT) = RT.ex := rfl
theorem Zii : (Out.ex : Ex → Env' → RA) = RA.ex := rfl
theorem Zij : (Out.ex : Ex → Env' → RS) = RS.ex := rfl
theorem Zik : (Out.ex : Ex → Env' → RI) = RI.ex := rfl
end
theorem R_bind_wp {r : R} {k : D → Env' → R} {Q : R → Prop} : Q (r.bind k) = bK Q (fun d e => Q (k d e)) r := by
  cases r with
  | ok r e => cases r with
    | d d => rfl
    | o o => cases o <;> rfl
  | _ => rfl
theorem R_bindT_wp {r : R} {k : D → Env' → RT} {Q : RT → Prop} : Q (r.bindT k) = bK Q (fun d e => Q (k d e)) r := by
  cases r with
  | ok r e => cases r with
    | d d => rfl
    | o o => cases o <;> rfl
  | _ => rfl
theorem R_bindA_wp {r : R} {k : D → Env' → RA} {Q : RA → Prop} : Q (r.bindA k) = bK Q (fun d e => Q (k d e)) r := by
  cases r with
  | ok r e => cases r with
    | d d => rfl
    | o o => cases o <;> rfl
  | _ => rfl
theorem R_bindS_wp {r : R} {k : D → Env' → RS} {Q : RS → Prop} : Q (r.bindS k) = bK Q (fun d e => Q (k d e)) r := by
  cases r with
  | ok r e => cases r with
    | d d => rfl
    | o o => cases o <;> rfl
  | _ => rfl
theorem R_bindR_wp {r : R} {k : RV → Env' → RS} {Q : RS → Prop} : Q (r.bindR k) = rvK Q (fun d e => Q (k d e)) r := by cases r <;> rfl
theorem RT_bind_wp {r : RT} {k : Bool → Env' → R} {Q : R → Prop} : Q (r.bind k) = tK Q (fun d e => Q (k d e)) r := by cases r <;> rfl
theorem RT_bindT_wp {r : RT} {k : Bool → Env' → RT} {Q : RT → Prop} : Q (r.bindT k) = tK Q (fun d e => Q (k d e)) r := by cases r <;> rfl
theorem RT_bindS_wp {r : RT} {k : Bool → Env' → RS} {Q : RS → Prop} : Q (r.bindS k) = tK Q (fun d e => Q (k d e)) r := by cases r <;> rfl
theorem RA_bind_wp {r : RA} {k : List AV → Env' → R} {Q : R → Prop} : Q (r.bind k) = aK Q (fun d e => Q (k d e)) r := by cases r <;> rfl
theorem RA_bindI_wp {r : RA} {k : List AV → Env' → RI} {Q : RI → Prop} : Q (r.bindI k) = aK Q (fun d e => Q (k d e)) r := by cases r <;> rfl

def getN (e : Env') (i : Nat) (k : SV → Prop) (N : Prop) (_ : Pin (e, i, k, N) := ⟨⟩) : Prop := match e[i]? with | some x => k x | none => N
theorem getN_k {e : Env'} {i : Nat} {k k' : SV → Prop} {N : Prop} (h : k = k') : getN e i k N = getN e i k' N := by rw [h]
def setN (e : Env') (i : Nat) (x : SV) (k : Env' → Prop) (N : Prop) (_ : Pin (e, i, x, k, N) := ⟨⟩) : Prop := if canSet e i then k (e.set i x) else N
def putN (e : Env') (i : Nat) (x : SV) (k : Env' → Prop) (_ : Pin (e, i, x, k) := ⟨⟩) : Prop := k (e.set i x)
theorem Zau {a e k N} : getN (a :: e) 0 k N = k a := rfl
theorem Zav {a e i k N} : getN (a :: e) (i + 1) k N = getN e i k N := rfl
theorem Zaw {e x k N} : setN (.un :: e) 0 x k N = k (x :: e) := rfl
theorem Zax {d e x k N} : setN (.val d :: e) 0 x k N = k (x :: e) := rfl
theorem Zay {o e x k N} : setN (.own false o :: e) 0 x k N = k (x :: e) := rfl
theorem Zdh {a e x k N} (h : Fr1 a) : setN (a :: e) 0 x k N = k (x :: e) := by rcases h with rfl | ⟨d, rfl⟩ <;> rfl
theorem Zaz {a e i x k N} : setN (a :: e) (i + 1) x k N = setN e i x (fun e => k (a :: e)) N := by
  unfold setN canSet
  simp only [List.getElem?_cons_succ, List.set]
theorem Zba {a e x k} : putN (a :: e) 0 x k = k (x :: e) := rfl
theorem Zbb {a e i x k} : putN (a :: e) (i + 1) x k = putN e i x (fun e => k (a :: e)) := rfl

section
variable {e : Env'} {Q : R → Prop} {QT : RT → Prop} {QA : RA → Prop} {QI : RI → Prop} {f g h : Env' → R} {fa : Env' → RA} {t u : Env' → RT}
def svK (e : Env') (i : Nat) (Q : R → Prop) : SV → Prop
  | .val d => Q (.ok (.d d) e)
  | .own false (.l xs) => putN e i (.val (.lst xs)) fun e' => Q (.ok (.d (.lst xs)) e')
  | _ => Q .no
theorem Zbc {i d} : svK e i Q (.val d) = Q (.ok (.d d) e) := rfl
theorem Zbd {i xs} : svK e i Q (.own false (.l xs)) = putN e i (.val (.lst xs)) fun e' => Q (.ok (.d (.lst xs)) e') := rfl
theorem Zbe {d} : wp (cK d) e Q = Q (.ok (.d d) e) := rfl
theorem Zbf {i} : wp (cV i) e Q = getN e i (svK e i Q) (Q .no) := by
  unfold wp cV getN svK putN
  cases e[i]? with
  | none => rfl
  | some x => cases x with
    | un => rfl
    | val d => rfl
    | own b o => cases b <;> cases o <;> rfl
theorem Zbg {p : D → D → Env' → R} : wp (two p f g) e Q = wp f e (bK Q fun x e1 => wp g e1 (bK Q fun y e2 => rK (p x y e2) Q)) := by
  unfold wp two
  refine (R_bind_wp (Q := Q)).trans ?_
  congr 1
  funext x e1
  refine (R_bind_wp (Q := Q)).trans ?_
  rfl
theorem Zbh {p x y} : rK (ofOp p x y e) Q = oK (p x y) (Q .no) fun r => Q (.ok r e) := by
  unfold rK ofOp oK
  cases p x y <;> rfl
theorem Zbi {p} : wp (cOp p f g) e Q = wp f e (bK Q fun x e1 => wp g e1 (bK Q fun y e2 => oK (p x y) (Q .no) fun r => Q (.ok r e2))) := by
  unfold cOp
  rw [Zbg]
  refine wp_k (congrArg (bK Q) ?_)
  funext x e1
  refine wp_k (congrArg (bK Q) ?_)
  funext y e2
  exact Zbh
theorem Zbj : wp (cTr f) e QT = wp f e (bK QT fun d e1 => oK (truthD d) (QT .no) fun b => QT (.ok b e1)) := by
  unfold wp cTr
  refine (R_bindT_wp (Q := QT)).trans ?_
  congr 1
  funext d e1
  unfold oK
  cases truthD d <;> rfl
theorem Zbk : wp (cAndT t u) e QT = wp t e (tK QT fun b e1 => iteK b (wp u e1 QT) (QT (.ok false e1))) := by
  unfold wp cAndT
  refine (RT_bindT_wp (Q := QT)).trans ?_
  congr 1
  funext b e1
  cases b <;> rfl
theorem Zbl : wp (cOrT t u) e QT = wp t e (tK QT fun b e1 => iteK b (QT (.ok true e1)) (wp u e1 QT)) := by
  unfold wp cOrT
  refine (RT_bindT_wp (Q := QT)).trans ?_
  congr 1
  funext b e1
  cases b <;> rfl
theorem Zbm : wp (cNotT t) e QT = wp t e (tK QT fun b e1 => QT (.ok (!b) e1)) := by
  unfold wp cNotT
  exact RT_bindT_wp (Q := QT)
theorem Zbn : wp cYes e QT = QT (.ok true e) := rfl
def bolK (Q : R → Prop) (k : Bool → Prop) : D → Prop
  | .bl b => k b
  | _ => Q .no
theorem Zbo {k b} : bolK Q k (.bl b) = k b := rfl
theorem Zbp : wp (cAnd f g) e Q = wp f e (bK Q fun d e1 => bolK Q (fun b => iteK b (wp g e1 Q) (Q (.ok (.d (.bl false)) e1))) d) := by
  unfold wp cAnd asB
  refine (R_bind_wp (Q := Q)).trans ?_
  congr 1
  funext d e1
  cases d with
  | bl b => cases b <;> rfl
  | _ => rfl
theorem Zbq : wp (cOr f g) e Q = wp f e (bK Q fun d e1 => bolK Q (fun b => iteK b (Q (.ok (.d (.bl true)) e1)) (wp g e1 Q)) d) := by
  unfold wp cOr asB
  refine (R_bind_wp (Q := Q)).trans ?_
  congr 1
  funext d e1
  cases d with
  | bl b => cases b <;> rfl
  | _ => rfl
theorem Zbr : wp (cNot f) e Q = wp f e (bK Q fun d e1 => bolK Q (fun b => Q (.ok (.d (.bl (!b))) e1)) d) := by
  unfold wp cNot asB
  refine (R_bind_wp (Q := Q)).trans ?_
  congr 1
  funext d e1
  cases d <;> rfl
theorem Zbs : wp (cIf t f g) e Q = wp t e (tK Q fun b e1 => iteK b (wp f e1 Q) (wp g e1 Q)) := by
  unfold wp cIf
  refine (RT_bind_wp (Q := Q)).trans ?_
  congr 1
  funext b e1
  cases b <;> rfl
theorem Zbt : wp cA0 e QA = QA (.ok [] e) := rfl
theorem Zbu : wp (cAd f fa) e QA = wp f e (bK QA fun d e1 => wp fa e1 (aK QA fun as e2 => QA (.ok (.d d :: as) e2))) := by
  unfold wp cAd
  refine (R_bindA_wp (Q := QA)).trans ?_
  congr 1
  funext d e1
  cases fa e1 <;> rfl
def ownK (N : Prop) (k : OB → Prop) : SV → Prop
  | .own _ o => k o
  | _ => N
theorem Zbv {N k b o} : ownK N k (.own b o) = k o := rfl
theorem Zbw {i} : wp (cAs i fa) e QA = getN e i (ownK (QA .no) fun _ => wp fa e (aK QA fun as e2 => QA (.ok (.s i :: as) e2))) (QA .no) := by
  unfold wp cAs getN ownK
  cases e[i]? with
  | none => rfl
  | some x => cases x with
    | own b o => cases fa e <;> rfl
    | _ => rfl
theorem Zbx : wp (cTup fa) e Q = wp fa e (aK Q fun as e1 => oK (avD as) (Q .no) fun ds => iteK (decide (ds.length ≤ 16777216)) (Q (.ok (.d (.tup ds)) e1)) (Q .no)) := by
  unfold wp cTup
  refine (RA_bind_wp (Q := Q)).trans ?_
  congr 1
  funext as e1
  unfold oK iteK
  cases avD as with
  | none => rfl
  | some ds =>
    by_cases h : ds.length ≤ 16777216
    · simp only [h, if_true, decide_true]
    · simp only [h, if_false, decide_false, Bool.false_eq_true]
theorem Zby : wp (cLst fa) e Q = wp fa e (aK Q fun as e1 => oK (avD as) (Q .no) fun ds => iteK (decide (ds.length ≤ 16777216)) (Q (.ok (.o (.l ds)) e1)) (Q .no)) := by
  unfold wp cLst
  refine (RA_bind_wp (Q := Q)).trans ?_
  congr 1
  funext as e1
  unfold oK iteK
  cases avD as with
  | none => rfl
  | some ds =>
    by_cases h : ds.length ≤ 16777216
    · simp only [h, if_true, decide_true]
    · simp only [h, if_false, decide_false, Bool.false_eq_true]
theorem Zbz : avD [] = some [] := rfl
theorem Zca {a} : avD [.d a] = some [a] := rfl
theorem Zcb {a b} : avD [.d a, .d b] = some [a, b] := rfl
theorem Zcc {a b c} : avD [.d a, .d b, .d c] = some [a, b, c] := rfl
theorem Zcd {a b c d} : avD [.d a, .d b, .d c, .d d] = some [a, b, c, d] := rfl
theorem Zce : wp (cIx f g) e Q = wp f e (bK Q fun x e1 => wp g e1 (bK Q fun y e2 => oK (ixD x y) (Q .no) fun d => Q (.ok (.d d) e2))) := by
  unfold cIx
  rw [Zbg]
  refine wp_k (congrArg (bK Q) ?_)
  funext x e1
  refine wp_k (congrArg (bK Q) ?_)
  funext y e2
  unfold rK oK
  cases ixD x y <;> rfl
def olK (N : Prop) (k : List D → Prop) : SV → Prop
  | .own _ (.l xs) => k xs
  | _ => N
theorem Zcf {N k b xs} : olK N k (.own b (.l xs)) = k xs := rfl
theorem withO_wp {i r} : Q (withO i e r) = getN e i (olK (Q .no) fun _ => Q r) (Q .no) := by
  unfold withO getN olK
  cases e[i]? with
  | none => rfl
  | some x => cases x with
    | own b o => cases o <;> rfl
    | _ => rfl
def intK (N : Prop) (k : Int → Prop) : D → Prop
  | .int i => k i
  | _ => N
theorem Zcg {N k i} : intK N k (.int i) = k i := rfl
theorem Zch {i} : wp (cIxO i g) e Q = getN e i (olK (Q .no) fun _ => wp g e (bK Q fun d e1 => getN e1 i (olK (Q .no) fun xs => intK (Q .no) (fun j => oK (atI xs j) (Q .no) fun y => Q (.ok (.d y) e1)) d) (Q .no))) (Q .no) := by
  unfold wp cIxO
  refine (withO_wp (Q := Q)).trans ?_
  refine getN_k (congrArg (olK (Q .no)) ?_)
  funext _
  refine (R_bind_wp (Q := Q)).trans ?_
  congr 1
  funext d e1
  unfold getN olK intK oK
  cases e1[i]? with
  | none => rfl
  | some x => cases x with
    | own b o => cases o with
      | l xs => cases d with
        | int j => cases h : atI xs j <;> simp [h]
        | _ => rfl
      | _ => rfl
    | _ => rfl
theorem Zci {p} : wp (cBi p fa) e Q = wp fa e (aK Q fun as e1 => oK (avD as) (Q .no) fun ds => oK (p ds) (Q .no) fun r => Q (.ok r e1)) := by
  unfold wp cBi
  refine (RA_bind_wp (Q := Q)).trans ?_
  congr 1
  funext as e1
  unfold oK
  cases avD as with
  | none => rfl
  | some ds => cases h : p ds <;> simp [h]
theorem Zcj {i} : wp (cLenO i) e Q = getN e i (olK (Q .no) fun xs => Q (.ok (.d (.int xs.length)) e)) (Q .no) := by
  unfold wp cLenO getN olK
  cases e[i]? with
  | none => rfl
  | some x => cases x with
    | own b o => cases o <;> rfl
    | _ => rfl
theorem Zck : wp (cNeg f) e Q = wp f e (bK Q fun d e1 => intK (Q .no) (fun i => Q (.ok (.d (.int (-i))) e1)) d) := by
  unfold wp cNeg
  refine (R_bind_wp (Q := Q)).trans ?_
  congr 1
  funext d e1
  cases d <;> rfl
theorem Zco {M} : wp (cIsi M f) e Q = wp f e (bK Q fun d e1 => oK (M.lookup (kd d)) (Q .no) fun b => Q (.ok (.d (.bl b)) e1)) := by
  unfold wp cIsi
  refine (R_bind_wp (Q := Q)).trans ?_
  congr 1
  funext d e1
  unfold oK
  cases h : M.lookup (kd d) <;> simp [h]
def objK (N : Prop) (k : Nat → List D → Prop) : D → Prop
  | .obj c xs => k c xs
  | _ => N
theorem Zcp {N k c xs} : objK N k (.obj c xs) = k c xs := rfl
theorem Zcq {al} : wp (cFld al f) e Q = wp f e (bK Q fun d e1 => objK (Q .no) (fun c xs => oK (al.lookup c) (Q .no) fun k => oK xs[k]? (Q .no) fun y => Q (.ok (.d y) e1)) d) := by
  unfold wp cFld
  refine (R_bind_wp (Q := Q)).trans ?_
  congr 1
  funext d e1
  cases d with
  | obj c xs =>
    unfold objK oK
    dsimp only
    cases al.lookup c with
    | none => rfl
    | some k => cases h : xs[k]? <;> simp [h]
  | _ => rfl
def outK (Q : R → Prop) (avs : List AV) (e : Env') : RF → Prop
  | .ok r outs => Q (.ok r (putA 0 e outs avs))
  | .ex x outs => Q (.ex x (putA 0 e outs avs))
  | .no => Q .no
def fK (r : RF) (Q : R → Prop) (avs : List AV) (e : Env') (_ : Pin (Q, avs, e) := ⟨⟩) : Prop := outK Q avs e r
def svsK (o : Option (List SV)) (φ : Fn) (dds : List D) (avs : List AV) (e : Env') (Q : R → Prop) (_ : Pin (o, φ, dds, avs, e, Q) := ⟨⟩) : Prop :=
  match o with
  | some as => if (slots avs).Nodup then fK (φ (as ++ dds.map .val)) Q avs e else Q .no
  | none => Q .no
theorem callR_wp {φ dds avs} : Q (callR φ dds avs e) = svsK (svs e avs) φ dds avs e Q := by
  unfold callR svsK fK outK
  cases svs e avs with
  | none => rfl
  | some as =>
    dsimp only
    by_cases h : (slots avs).Nodup
    · rw [if_pos h, if_pos h]
      cases φ (as ++ List.map SV.val dds) <;> rfl
    · rw [if_neg h, if_neg h]
theorem Zct {φ dds} : svsK (svs e []) φ dds [] e Q = fK (φ (dds.map .val)) Q [] e := rfl
theorem Zcu {φ dds a} : svsK (svs e [.d a]) φ dds [.d a] e Q = fK (φ (.val a :: dds.map .val)) Q [.d a] e := rfl
theorem Zcv {φ dds a b} : svsK (svs e [.d a, .d b]) φ dds [.d a, .d b] e Q = fK (φ (.val a :: .val b :: dds.map .val)) Q [.d a, .d b] e := rfl
theorem Zcw {φ dds a b c} : svsK (svs e [.d a, .d b, .d c]) φ dds [.d a, .d b, .d c] e Q = fK (φ (.val a :: .val b :: .val c :: dds.map .val)) Q [.d a, .d b, .d c] e := rfl
theorem Zcx {φ dds a b c d} : svsK (svs e [.d a, .d b, .d c, .d d]) φ dds [.d a, .d b, .d c, .d d] e Q = fK (φ (.val a :: .val b :: .val c :: .val d :: dds.map .val)) Q [.d a, .d b, .d c, .d d] e := rfl
theorem Zcy {φ dds a b c d x} : svsK (svs e [.d a, .d b, .d c, .d d, .d x]) φ dds [.d a, .d b, .d c, .d d, .d x] e Q = fK (φ (.val a :: .val b :: .val c :: .val d :: .val x :: dds.map .val)) Q [.d a, .d b, .d c, .d d, .d x] e := rfl
theorem Zcz {φ dds a b c d x y} : svsK (svs e [.d a, .d b, .d c, .d d, .d x, .d y]) φ dds [.d a, .d b, .d c, .d d, .d x, .d y] e Q = fK (φ (.val a :: .val b :: .val c :: .val d :: .val x :: .val y :: dds.map .val)) Q [.d a, .d b, .d c, .d d, .d x, .d y] e := rfl
theorem Zcr {φ dds avs} : rK (callR φ dds avs e) Q = svsK (svs e avs) φ dds avs e Q := callR_wp
theorem Zcs {φ dds} : wp (cCall φ dds fa) e Q = wp fa e (aK Q fun as e1 => svsK (svs e1 as) φ dds as e1 Q) := by
  unfold wp cCall
  refine (RA_bind_wp (Q := Q)).trans ?_
  congr 1
  funext as e1
  exact callR_wp
theorem svs_0 : svs e [] = some [] := rfl
theorem svs_d {d as} : svs e (.d d :: as) = (svs e as).map (.val d :: ·) := rfl
theorem svs_d1 {a} : svs e [.d a] = some [.val a] := rfl
theorem svs_d2 {a b} : svs e [.d a, .d b] = some [.val a, .val b] := rfl
theorem svs_d3 {a b c} : svs e [.d a, .d b, .d c] = some [.val a, .val b, .val c] := rfl
theorem svs_d4 {a b c d} : svs e [.d a, .d b, .d c, .d d] = some [.val a, .val b, .val c, .val d] := rfl
theorem svs_d5 {a b c d x} : svs e [.d a, .d b, .d c, .d d, .d x] = some [.val a, .val b, .val c, .val d, .val x] := rfl
def lentO (e : Env') (i : Nat) : Option OB := match e[i]? with | some (.own _ o) => some o | _ => none
theorem Zdf {b o e} : lentO (.own b o :: e) 0 = some o := rfl
theorem Zdg {a e i} : lentO (a :: e) (i + 1) = lentO e i := rfl
theorem svs_s {i as} : svs e (.s i :: as) = (lentO e i).bind fun o => (svs e as).map (SV.own true o :: ·) := by
  show (match e[i]? with | some (SV.own _ o) => (svs e as).map (SV.own true o :: ·) | _ => none) = _
  unfold lentO
  cases e[i]? with
  | none => rfl
  | some x => cases x <;> rfl
theorem cs_ {φ dds i} {as : List AV} {l : List SV} (h0 : slots as = []) (h : svs e as = some l) : svsK (svs e (.s i :: as)) φ dds (.s i :: as) e Q = oK (lentO e i) (Q .no) fun o => fK (φ (.own true o :: (l ++ dds.map .val))) Q (.s i :: as) e := by
  rw [svs_s, h]
  cases q : lentO e i with
  | none => rfl
  | some o =>
    show svsK (some (.own true o :: l)) φ dds (.s i :: as) e Q = fK (φ (.own true o :: (l ++ dds.map .val))) Q (.s i :: as) e
    exact if_pos (by show (i :: slots as).Nodup; rw [h0]; simp)
theorem Zda {φ dds i} : svsK (svs e [.s i]) φ dds [.s i] e Q = oK (lentO e i) (Q .no) fun o => fK (φ (.own true o :: dds.map .val)) Q [.s i] e := cs_ (as := []) (l := []) rfl rfl
theorem Zdb {φ dds i a} : svsK (svs e [.s i, .d a]) φ dds [.s i, .d a] e Q = oK (lentO e i) (Q .no) fun o => fK (φ (.own true o :: .val a :: dds.map .val)) Q [.s i, .d a] e := cs_ (as := [.d a]) (l := [.val a]) rfl rfl
theorem Zdc {φ dds i a b} : svsK (svs e [.s i, .d a, .d b]) φ dds [.s i, .d a, .d b] e Q = oK (lentO e i) (Q .no) fun o => fK (φ (.own true o :: .val a :: .val b :: dds.map .val)) Q [.s i, .d a, .d b] e := cs_ (as := [.d a, .d b]) (l := [.val a, .val b]) rfl rfl
theorem Zdd {φ dds i a b c} : svsK (svs e [.s i, .d a, .d b, .d c]) φ dds [.s i, .d a, .d b, .d c] e Q = oK (lentO e i) (Q .no) fun o => fK (φ (.own true o :: .val a :: .val b :: .val c :: dds.map .val)) Q [.s i, .d a, .d b, .d c] e := cs_ (as := [.d a, .d b, .d c]) (l := [.val a, .val b, .val c]) rfl rfl
theorem Zde {φ dds i a b c d} : svsK (svs e [.s i, .d a, .d b, .d c, .d d]) φ dds [.s i, .d a, .d b, .d c, .d d] e Q = oK (lentO e i) (Q .no) fun o => fK (φ (.own true o :: .val a :: .val b :: .val c :: .val d :: dds.map .val)) Q [.s i, .d a, .d b, .d c, .d d] e := cs_ (as := [.d a, .d b, .d c, .d d]) (l := [.val a, .val b, .val c, .val d]) rfl rfl
theorem svsK_s {as φ dds avs} (h : (slots avs).Nodup) : svsK (some as) φ dds avs e Q = fK (φ (as ++ dds.map .val)) Q avs e := if_pos h
theorem nod_d {a as} : (slots (.d a :: as)).Nodup = (slots as).Nodup := rfl
theorem nod_0 : (slots []).Nodup = True := eq_true List.nodup_nil
theorem nod_s {i as} (h : slots as = []) : (slots (.s i :: as)).Nodup = True := by unfold slots; rw [h]; simp
theorem slots_d {a as} : slots (.d a :: as) = slots as := rfl
theorem slots_0 : slots [] = [] := rfl
def putK (n : Nat) (e : Env') (outs : List (Nat × OB)) (avs : List AV) (K : Env' → Prop) (_ : Pin (n, e, outs, avs, K) := ⟨⟩) : Prop := K (putA n e outs avs)
theorem Zdi {r outs avs} : fK (.ok r outs) Q avs e = putK 0 e outs avs fun e1 => Q (.ok r e1) := rfl
theorem Zdj {x outs avs} : fK (.ex x outs) Q avs e = putK 0 e outs avs fun e1 => Q (.ex x e1) := rfl
theorem putA_nil : ∀ (avs : List AV) (n : Nat) (e : Env'), putA n e [] avs = e
  | [], _, _ => rfl
  | .d _ :: as, n, e => putA_nil as (n + 1) e
  | .s i :: as, n, e => by
    unfold putA
    simp only [List.lookup_nil]
    exact putA_nil as (n + 1) e
theorem Zdk {n avs K} : putK n e [] avs K = K e := by unfold putK; rw [putA_nil]
theorem putA_drop {k : Nat} {o : OB} : ∀ (avs : List AV) (n : Nat) (e : Env') (outs : List (Nat × OB)), k < n → putA n e ((k, o) :: outs) avs = putA n e outs avs
  | [], _, _, _, _ => rfl
  | .d _ :: as, n, e, outs, h => putA_drop as (n + 1) e outs (by omega)
  | .s i :: as, n, e, outs, h => by
    unfold putA
    rw [List.lookup_cons, show (n == k) = false by simp; omega]
    exact putA_drop as (n + 1) _ outs (by omega)
def ownPut (e : Env') (i : Nat) (o : OB) (K : Env' → Prop) (_ : Pin (e, i, o, K) := ⟨⟩) : Prop := K (setO e i o)
theorem Zdl {b o' e o K} : ownPut (.own b o' :: e) 0 o K = K (.own b o :: e) := rfl
theorem Zdm {a e i o K} : ownPut (a :: e) (i + 1) o K = ownPut e i o fun e => K (a :: e) := by
  unfold ownPut setO
  simp only [List.getElem?_cons_succ]
  cases e[i]? with
  | none => rfl
  | some x => cases x <;> rfl
theorem Zdn {n outs d avs K} : putK n e outs (.d d :: avs) K = putK (n + 1) e outs avs K := rfl
theorem Zdo {n o outs i avs K} : putK n e ((n, o) :: outs) (.s i :: avs) K = ownPut e i o fun e => putK (n + 1) e outs avs K := by
  unfold putK ownPut
  rw [show putA n e ((n, o) :: outs) (.s i :: avs) = putA (n + 1) (setO e i o) ((n, o) :: outs) avs by
    conv => lhs; unfold putA
    rw [List.lookup_cons_self]]
  rw [putA_drop _ _ _ _ (Nat.lt_succ_self n)]
theorem Zdp {c φ dds} : wp (cMeth c φ dds f fa) e Q = wp f e (bK Q fun d e1 => objK (Q .no) (fun c' xs => iteK (decide (c' = c)) (wp fa e1 (aK Q fun as e2 => svsK (svs e2 (.d (.obj c' xs) :: as)) φ dds (.d (.obj c' xs) :: as) e2 Q)) (Q .no)) d) := by
  unfold wp cMeth
  refine (R_bind_wp (Q := Q)).trans ?_
  congr 1
  funext d e1
  cases d with
  | obj c' xs =>
    unfold objK iteK
    dsimp only
    by_cases h : c' = c
    · subst h
      simp only [if_true, decide_true]
      refine (RA_bind_wp (Q := Q)).trans ?_
      congr 1
      funext as e2
      exact callR_wp
    · simp only [h, if_false, decide_false, Bool.false_eq_true]
  | _ => rfl
def okK (Q : R → Prop) : R → Prop
  | .ok r e => Q (.ok r e)
  | _ => Q .no
theorem Zer {r} : okK Q (.ok r e) = Q (.ok r e) := rfl
theorem Zdq {c φ} : wp (cProp c φ f) e Q = wp f e (bK Q fun d e1 => objK (Q .no) (fun c' xs => iteK (decide (c' = c)) (fK (φ [.val (.obj c' xs)]) (okK Q) [.d (.obj c' xs)] e1) (Q .no)) d) := by
  unfold wp cProp
  refine (R_bind_wp (Q := Q)).trans ?_
  congr 1
  funext d e1
  cases d with
  | obj c' xs =>
    unfold objK iteK fK outK
    dsimp only
    by_cases h : c' = c
    · subst h
      simp only [if_true, decide_true]
      refine Eq.trans (b := (okK Q) (callR φ [] [.d (.obj c' xs)] e1)) ?_ ?_
      · cases callR φ [] [.d (.obj c' xs)] e1 <;> rfl
      · refine (callR_wp (Q := okK Q)).trans ?_
        exact svsK_s (by rw [nod_d, nod_0]; trivial)
    · simp only [h, if_false, decide_false, Bool.false_eq_true]
  | _ => rfl
def mkK (c nf : Nat) (Q : R → Prop) (e : Env') : RF → Prop
  | .ok (.d .non) outs => (match outs.lookup 0 with | some (.s c' xs) => if c' = c ∧ xs.length = nf then Q (.ok (.d (.obj c xs)) e) else Q .no | _ => Q .no)
  | .ok _ _ => Q .no
  | .ex x _ => Q (.ex x e)
  | .no => Q .no
def makeK (r : RF) (c nf : Nat) (Q : R → Prop) (e : Env') (_ : Pin (Q, e) := ⟨⟩) : Prop := mkK c nf Q e r
theorem Zdr {c nf xs} (h : xs.length = nf) : makeK (.ok (.d .non) [(0, .s c xs)]) c nf Q e = Q (.ok (.d (.obj c xs)) e) := by
  unfold makeK mkK
  simp [h]
theorem Zds {c nf x outs} : makeK (.ex x outs) c nf Q e = Q (.ex x e) := rfl
theorem Zdt {c nf φ dds} : wp (cMake c nf φ dds fa) e Q = wp fa e (aK Q fun as e1 => oK (avD as) (Q .no) fun ds => makeK (φ (.own true (.s c []) :: (ds.map .val ++ dds.map .val))) c nf Q e1) := by
  unfold wp cMake
  refine (RA_bind_wp (Q := Q)).trans ?_
  congr 1
  funext as e1
  unfold makeR oK makeK mkK
  cases avD as with
  | none => rfl
  | some ds =>
    dsimp only
    cases φ (.own true (.s c []) :: (ds.map .val ++ dds.map .val)) with
    | ok r outs =>
      cases r with
      | d d =>
        cases d with
        | non =>
          dsimp only
          cases outs.lookup 0 with
          | none => rfl
          | some o => cases o with
            | l _ => rfl
            | s c' xs =>
              dsimp only
              by_cases h : c' = c ∧ xs.length = nf
              · rw [if_pos h, if_pos h]
              · rw [if_neg h, if_neg h]
        | _ => rfl
      | o o => rfl
    | _ => rfl
theorem Zdu {M q a y} : rK (pOwn M q (.int a) y e) Q = oK (q (.int a) y) (Q .no) fun r => Q (.ok r e) := Zbh
theorem Zdv {M q a y} : rK (pOwn M q (.str a) y e) Q = oK (q (.str a) y) (Q .no) fun r => Q (.ok r e) := Zbh
theorem Zdw {M q a y} : rK (pOwn M q (.tup a) y e) Q = oK (q (.tup a) y) (Q .no) fun r => Q (.ok r e) := Zbh
theorem Zdx {M q a y} : rK (pOwn M q (.lst a) y e) Q = oK (q (.lst a) y) (Q .no) fun r => Q (.ok r e) := Zbh
theorem Zdy {M q a y} : rK (pOwn M q (.bl a) y e) Q = oK (q (.bl a) y) (Q .no) fun r => Q (.ok r e) := Zbh
theorem Zdz {M q y} : rK (pOwn M q .non y e) Q = oK (q .non y) (Q .no) fun r => Q (.ok r e) := Zbh
theorem Zea {M q c xs ys} : rK (pOwn M q (.obj c xs) (.obj c ys) e) Q = oK (M.lookup c) (Q .no) fun φ => fK (φ [.val (.obj c xs), .val (.obj c ys)]) Q [.d (.obj c xs), .d (.obj c ys)] e := by
  rw [own_oo]
  unfold oK rK
  cases M.lookup c with
  | none => rfl
  | some φ =>
    refine (callR_wp (Q := Q)).trans ?_
    exact svsK_s (by rw [nod_d, nod_d, nod_0]; trivial)
theorem Zeb {neg M q a y} : rK (pEqM neg M q (.int a) y e) Q = oK (q (.int a) y) (Q .no) fun r => Q (.ok r e) := Zbh
theorem Zec {neg M q a y} : rK (pEqM neg M q (.str a) y e) Q = oK (q (.str a) y) (Q .no) fun r => Q (.ok r e) := Zbh
theorem Zed {neg M q a y} : rK (pEqM neg M q (.tup a) y e) Q = oK (q (.tup a) y) (Q .no) fun r => Q (.ok r e) := Zbh
theorem Zee {neg M q a y} : rK (pEqM neg M q (.lst a) y e) Q = oK (q (.lst a) y) (Q .no) fun r => Q (.ok r e) := Zbh
theorem Zef {neg M q a y} : rK (pEqM neg M q (.bl a) y e) Q = oK (q (.bl a) y) (Q .no) fun r => Q (.ok r e) := Zbh
theorem Zeg {neg M q y} : rK (pEqM neg M q .non y e) Q = oK (q .non y) (Q .no) fun r => Q (.ok r e) := Zbh
def btK (neg : Bool) (Q : R → Prop) : R → Prop := fun r => Q (r.boolTo neg)
theorem Zeh {neg Q e b} : btK neg Q (.ok (.d (.bl b)) e) = Q (.ok (.d (.bl (if neg then !b else b))) e) := rfl
def inK (k : Nat) (l : List Nat) : Bool := decide (k ∈ l)
theorem Zil {k l} : inK k (k :: l) = true := decide_eq_true (List.mem_cons_self ..)
theorem Zim {k j l} (h : (k == j) = false) : inK k (j :: l) = inK k l := by
  unfold inK
  have h' : k ≠ j := by simpa using h
  simp [h']
def prK (k : Fn → List Nat → Prop) : Fn × List Nat → Prop := fun p => k p.1 p.2
theorem Zej {k a b} : prK k (a, b) = k a b := rfl
theorem Zei {neg M q c xs y} : rK (pEqM neg M q (.obj c xs) y e) Q = oK (M.lookup c) (Q .no) (prK fun φ ks => iteK (inK (kd y) ks) (fK (φ [.val (.obj c xs), .val y]) (btK neg Q) [.d (.obj c xs), .d y] e) (Q .no)) := by
  unfold rK pEqM oK prK inK
  dsimp only
  cases M.lookup c with
  | none => rfl
  | some p =>
    obtain ⟨φ, ks⟩ := p
    dsimp only
    unfold iteK
    by_cases h : kd y ∈ ks
    · simp only [h, if_true, decide_true]
      refine (callR_wp (Q := btK neg Q)).trans ?_
      exact svsK_s (by rw [nod_d, nod_d, nod_0]; trivial)
    · simp only [h, if_false, decide_false, Bool.false_eq_true]
theorem Zek : wp (iD f) e QI = wp f e (bK QI fun d e1 => oK (itemsD d) (QI .no) fun ds => QI (.ok ds e1)) := by
  unfold wp iD oK
  cases f e with
  | ok r e1 => cases r with
    | d d =>
      unfold bK
      dsimp only
      cases h : itemsD d <;> rfl
    | o o => cases o <;> rfl
  | _ => rfl
def l1K (N : Prop) (k : Int → Prop) : List Int → Prop
  | [j] => k j
  | _ => N
theorem Zep {N k j} : l1K N k [j] = k j := rfl
def l2K (N : Prop) (k : Int → Int → Prop) : List Int → Prop
  | [i, j] => k i j
  | _ => N
theorem Zeq {N k i j} : l2K N k [i, j] = k i j := rfl
theorem Zel : wp (iR1 fa) e QI = wp fa e (aK QI fun as e1 => oK (avI as) (QI .no) fun l => l1K (QI .no) (fun j => iteK (smI j) (QI (.ok (rngD 0 j) e1)) (QI .no)) l) := by
  unfold wp iR1
  refine (RA_bindI_wp (Q := QI)).trans ?_
  congr 1
  funext as e1
  unfold oK iteK
  cases avI as with
  | none => rfl
  | some l => match l with
    | [] => rfl
    | [j] => by_cases h : smI j = true <;> simp [h, l1K]
    | _ :: _ :: _ => rfl
theorem Zem : wp (iR2 fa) e QI = wp fa e (aK QI fun as e1 => oK (avI as) (QI .no) fun l => l2K (QI .no) (fun i j => iteK (smI i && smI j) (QI (.ok (rngD i j) e1)) (QI .no)) l) := by
  unfold wp iR2
  refine (RA_bindI_wp (Q := QI)).trans ?_
  congr 1
  funext as e1
  unfold oK iteK
  cases avI as with
  | none => rfl
  | some l => match l with
    | [] => rfl
    | [j] => rfl
    | [i, j] => by_cases h : (smI i && smI j) = true <;> simp only [h, if_true, if_false, Bool.false_eq_true, l2K]
    | _ :: _ :: _ :: _ => rfl
theorem Zen {i} : avI [.d (.int i)] = some [i] := rfl
theorem Zeo {i j} : avI [.d (.int i), .d (.int j)] = some [i, j] := rfl
end
section
variable {e : Env'} {Q : RS → Prop} {f g h : Env' → R} {fa : Env' → RA} {c : Env' → RT} {t u : Env' → RS}
def seqK (u : Env' → RS) (Q : RS → Prop) : RS → Prop
  | .nx e => wp u e Q
  | r => Q r
theorem Zes : seqK u Q (.nx e) = wp u e Q := rfl
theorem Zet {r} : seqK u Q (.rt r e) = Q (.rt r e) := rfl
theorem Zeu {r} : seqK u Q (.ex r e) = Q (.ex r e) := rfl
theorem Zev : seqK u Q (.bk e) = Q (.bk e) := rfl
theorem Zew : seqK u Q (.ct e) = Q (.ct e) := rfl
theorem Zex : seqK u Q .no = Q .no := rfl
theorem Zey : wp (sSeq t u) e Q = wp t e (seqK u Q) := by
  unfold wp sSeq seqK
  cases t e <;> rfl
theorem Zez : wp sNx e Q = Q (.nx e) := rfl
theorem Zfa : wp sBk e Q = Q (.bk e) := rfl
theorem Zfb : wp sCt e Q = Q (.ct e) := rfl
theorem Zfc : wp (sDrop f) e Q = wp f e (rvK Q fun _ e1 => Q (.nx e1)) := R_bindR_wp
theorem Zfd : wp (sRet f) e Q = wp f e (rvK Q fun r e1 => Q (.rt r e1)) := R_bindR_wp
theorem Zfe : wp sRetN e Q = Q (.rt (.d .non) e) := rfl
def ofalK (N : Prop) (k : OB → Prop) : SV → Prop
  | .own false o => k o
  | _ => N
theorem Zff {N k o} : ofalK N k (.own false o) = k o := rfl
theorem Zfg {i} : wp (sRetO i) e Q = getN e i (ofalK (Q .no) fun o => putN e i .un fun e1 => Q (.rt (.o o) e1)) (Q .no) := by
  unfold wp sRetO getN ofalK putN
  cases e[i]? with
  | none => rfl
  | some x => cases x with
    | own b o => cases b <;> rfl
    | _ => rfl
theorem Zfh : wp (sIf c t u) e Q = wp c e (tK Q fun b e1 => iteK b (wp t e1 Q) (wp u e1 Q)) := by
  unfold wp sIf
  refine (RT_bindS_wp (Q := Q)).trans ?_
  congr 1
  funext b e1
  cases b <;> rfl
theorem Zfi {i} : wp (sSet i f) e Q = wp f e (bK Q fun d e1 => setN e1 i (.val d) (fun e2 => Q (.nx e2)) (Q .no)) := by
  unfold wp sSet
  refine (R_bindS_wp (Q := Q)).trans ?_
  congr 1
  funext d e1
  unfold setN
  split <;> rfl
theorem ofR_d {d} : ofR (.d d) = .val d := rfl
theorem ofR_o {o} : ofR (.o o) = .own false o := rfl
def rv2 (r : RV) (k : SV → Prop) (_ : Pin (r, k) := ⟨⟩) : Prop := k (ofR r)
theorem Zfj {d k} : rv2 (.d d) k = k (.val d) := rfl
theorem Zfk {d k} : rv2 (.o d) k = k (.own false d) := rfl
theorem Zfl {i} : wp (sSetO i f) e Q = wp f e (rvK Q fun r e1 => rv2 r fun x => setN e1 i x (fun e2 => Q (.nx e2)) (Q .no)) := by
  unfold wp sSetO
  refine (R_bindR_wp (Q := Q)).trans ?_
  congr 1
  funext d e1
  unfold setN rv2
  split <;> rfl
def oE (o : Option Env') (N : Prop) (k : Env' → Prop) : Prop := match o with | some e => k e | none => N
def gK (h : D → Env' → Option Env') (d : D) (e : Env') (k : Env' → Prop) (N : Prop) (_ : Pin (h, d, e, k, N) := ⟨⟩) : Prop := oE (h d e) N k
def gsK (h : List D → Env' → Option Env') (d : List D) (e : Env') (k : Env' → Prop) (N : Prop) (_ : Pin (h, d, e, k, N) := ⟨⟩) : Prop := oE (h d e) N k
theorem Zfm {i d k N} : gK (gN i) d e k N = setN e i (.val d) k N := by
  unfold gK gN oE setN
  by_cases h : canSet e i = true <;> simp [h]
theorem Zfn {n h ds k N} (hl : ds.length = n) : gK (gT n h) (.tup ds) e k N = gsK h ds e k N := by
  unfold gK gT gsK oE
  dsimp only
  rw [if_pos hl]
theorem Zfo {k N} : gsK g0 [] e k N = k e := rfl
theorem Zfp {h h' d ds k N} : gsK (gC h h') (d :: ds) e k N = gK h d e (fun e1 => gsK h' ds e1 k N) N := by
  unfold gsK gC gK oE
  dsimp only
  cases h d e with
  | none => rfl
  | some e1 => rfl
theorem Zfq {h} : wp (sAsg f h) e Q = wp f e (bK Q fun d e1 => gK h d e1 (fun e2 => Q (.nx e2)) (Q .no)) := by
  unfold wp sAsg
  refine (R_bindS_wp (Q := Q)).trans ?_
  congr 1
  funext d e1
  unfold gK oE
  cases h d e1 <;> rfl
theorem Zfr {fi h} : wp (sFor fi h t) e Q = wp fi e (iK Q fun ds e1 => wp (forL h t ds) e1 Q) := by
  unfold wp sFor
  cases fi e <;> rfl
theorem Zfs {h} : wp (forL h t []) e Q = Q (.nx e) := rfl
def lpK (N : Env' → Prop) (Q : RS → Prop) : RS → Prop
  | .nx e => N e
  | .ct e => N e
  | .bk e => Q (.nx e)
  | .rt r e => Q (.rt r e)
  | .ex x e => Q (.ex x e)
  | .no => Q .no
section
variable {N : Env' → Prop}
theorem Zfu : lpK N Q (.nx e) = N e := rfl
theorem Zfv : lpK N Q (.ct e) = N e := rfl
theorem Zfw : lpK N Q (.bk e) = Q (.nx e) := rfl
theorem Zfx {r} : lpK N Q (.rt r e) = Q (.rt r e) := rfl
theorem Zfy {r} : lpK N Q (.ex r e) = Q (.ex r e) := rfl
theorem Zfz : lpK N Q .no = Q .no := rfl
end
theorem Zft {h d ds} : wp (forL h t (d :: ds)) e Q = gK h d e (fun e1 => wp t e1 (lpK (fun e2 => wp (forL h t ds) e2 Q) Q)) (Q .no) := by
  unfold wp gK oE
  conv => lhs; unfold forL
  cases h d e with
  | none => rfl
  | some e1 =>
    dsimp only
    cases t e1 <;> rfl
theorem for_inv {h} {ds : List D} (P : List D → Env' → Prop) (h0 : P [] e) (st : ∀ d ds1 ds2 e, ds = ds1 ++ d :: ds2 → P ds1 e → gK h d e (fun e1 => wp t e1 (lpK (fun e2 => P (ds1 ++ [d]) e2) Q)) (Q .no)) (fin : ∀ e, P ds e → Q (.nx e)) : wp (forL h t ds) e Q := by
  suffices ∀ (r ds1 : List D) (e : Env'), ds = ds1 ++ r → P ds1 e → wp (forL h t r) e Q from this ds [] e rfl h0
  intro r
  induction r with
  | nil =>
    intro ds1 e hd p
    rw [Zfs]
    refine fin e ?_
    rw [hd, List.append_nil]
    exact p
  | cons d r ih =>
    intro ds1 e hd p
    rw [Zft]
    have := st d ds1 r e hd p
    unfold gK oE at this ⊢
    cases hh : h d e with
    | none => rw [hh] at this; exact this
    | some e1 =>
      rw [hh] at this
      dsimp only at this ⊢
      unfold wp at this ⊢
      cases ht : t e1 with
      | nx e2 => rw [ht] at this; exact ih (ds1 ++ [d]) e2 (by rw [hd]; simp) this
      | ct e2 => rw [ht] at this; exact ih (ds1 ++ [d]) e2 (by rw [hd]; simp) this
      | bk e2 => rw [ht] at this; exact this
      | rt r e2 => rw [ht] at this; exact this
      | ex x e2 => rw [ht] at this; exact this
      | no => rw [ht] at this; exact this
theorem for_fold {σ : Type} {h} {ds : List D} (E : σ → Env' → Prop) (s0 : σ) (step : σ → D → σ) (h0 : E s0 e) (st : ∀ s d e, d ∈ ds → E s e → gK h d e (fun e1 => wp t e1 (lpK (fun e2 => E (step s d) e2) Q)) (Q .no)) (fin : ∀ e, E (ds.foldl step s0) e → Q (.nx e)) : wp (forL h t ds) e Q := by
  refine for_inv (fun l e => E (l.foldl step s0) e) h0 (fun d ds1 ds2 e hd p => ?_) fin
  have := st _ d e (by rw [hd]; simp) p
  rw [List.foldl_append]
  exact this
theorem for_n {h} {n : Nat} {F : Nat → D} (P : Nat → Env' → Prop) (h0 : P 0 e) (st : ∀ i e, i < n → P i e → gK h (F i) e (fun e1 => wp t e1 (lpK (fun e2 => P (i + 1) e2) Q)) (Q .no)) (fin : ∀ e, P n e → Q (.nx e)) : wp (forL h t ((List.range n).map F)) e Q := by
  refine for_inv (fun l e => P l.length e) h0 (fun d ds1 ds2 e hd p => ?_) (fun e p => fin e (by simpa using p))
  have hl : ds1.length < n := by
    have := congrArg List.length hd
    simp at this
    omega
  have hF : d = F ds1.length := by
    have := congrArg (fun l => l[ds1.length]?) hd
    simp [hl] at this
    exact this.symm
  have := st ds1.length e hl p
  rw [← hF] at this
  rw [show (ds1 ++ [d]).length = ds1.length + 1 by simp]
  exact this
theorem wh_inv {n : Env' → Nat} (P : Env' → Prop) (m : Env' → Nat) (h0 : P e) (hm : m e < n e) (st : ∀ e, P e → wp c e (tK Q fun b e1 => iteK b (wp t e1 (lpK (fun e2 => P e2 ∧ m e2 < m e) Q)) (Q (.nx e1)))) : wp (sWh n c t) e Q := by
  suffices ∀ (k : Nat) (e : Env'), P e → m e < k → wp (whL c t k) e Q from this _ e h0 hm
  intro k
  induction k with
  | zero => intro e _ h; omega
  | succ k ih =>
    intro e p hk
    have := st e p
    unfold wp at this ⊢
    unfold whL
    cases hc : c e with
    | no => rw [hc] at this; exact this
    | ex x e1 => rw [hc] at this; exact this
    | ok b e1 =>
      rw [hc] at this
      cases b with
      | false => exact this
      | true =>
        dsimp only
        unfold tK iteK at this
        dsimp only at this
        rw [if_pos rfl] at this
        cases ht : t e1 with
        | nx e2 => rw [ht] at this; exact ih e2 this.1 (by have := this.2; omega)
        | ct e2 => rw [ht] at this; exact ih e2 this.1 (by have := this.2; omega)
        | bk e2 => rw [ht] at this; exact this
        | rt r e2 => rw [ht] at this; exact this
        | ex x e2 => rw [ht] at this; exact this
        | no => rw [ht] at this; exact this
theorem Zga {i} {f : Env' → R} {Q : R → Prop} : wp (cApp i f) e Q = getN e i (olK (Q .no) fun _ => wp f e (bK Q fun d e1 => getN e1 i (olK (Q .no) fun xs => iteK (decide (xs.length < 16777216)) (ownPut e1 i (.l (xs ++ [d])) fun e2 => Q (.ok (.d .non) e2)) (Q .no)) (Q .no))) (Q .no) := by
  unfold wp cApp
  refine (withO_wp (Q := Q)).trans ?_
  refine getN_k (congrArg (olK (Q .no)) ?_)
  funext _
  refine (R_bind_wp (Q := Q)).trans ?_
  congr 1
  funext d e1
  unfold getN olK ownPut setO iteK
  cases h : e1[i]? with
  | none => rfl
  | some x => cases x with
    | own b o => cases o with
      | l xs => by_cases hl : xs.length < 16777216 <;> simp [hl]
      | _ => rfl
    | _ => rfl
theorem Zgb {i} {fv fi : Env' → R} : wp (sSub i fv fi) e Q = wp fv e (bK Q fun d e1 => getN e1 i (olK (Q .no) fun _ => wp fi e1 (bK Q fun j e2 => getN e2 i (olK (Q .no) fun xs => intK (Q .no) (fun k => oK (ixN xs.length k) (Q .no) fun j => ownPut e2 i (.l (xs.set j d)) fun e3 => Q (.nx e3)) j) (Q .no))) (Q .no)) := by
  unfold wp sSub
  refine (R_bindS_wp (Q := Q)).trans ?_
  congr 1
  funext d e1
  cases h : e1[i]? with
  | none => simp [getN, h]
  | some x => cases x with
    | own b o => cases o with
      | l xs =>
        simp only [getN, h, olK]
        refine (R_bindS_wp (Q := Q)).trans ?_
        congr 1
        funext j e2
        cases h2 : e2[i]? with
        | none => rfl
        | some x2 => cases x2 with
          | own b2 o2 => cases o2 with
            | l ys => cases j with
              | int k =>
                unfold intK oK ownPut setO
                dsimp only
                cases hk : ixN ys.length k with
                | none => rfl
                | some z => simp [h2]
              | _ => rfl
            | _ => rfl
          | _ => rfl
      | s c xs => simp [getN, h, olK]
    | un => simp [getN, h, olK]
    | val d => simp [getN, h, olK]
end
end
end L2.S

set_option Elab.async false
set_option linter.all false
set_option maxRecDepth 100000
set_option maxHeartbeats 4000000
namespace L2.S
open PySem PySem.Spec PyProof.Rows
def endsAs (D : Ends) : Option Nat → Ends
  | none => D
  | some i => ⟨fun τ J => D.nx (τ.set i none) J, D.rt, fun τ J => D.bk (τ.set i none) J, fun τ J => D.ct (τ.set i none) J⟩
def slotAs (τ : St) (x : Addr) : Option Nat → St
  | none => τ
  | some i => τ.set i (some (.ref x))
abbrev HdS := Addr → Value → Option Addr → TS
def wMix (K : PySem.W.Frag) (Wo : WX) (D : Ends) : List (Value × Option Nat × HdS) → WX
  | [] => Wo
  | (cv, m, ts) :: l => fun cl dd τ J => ∃ k, PySem.W.exmOne K cl cv = some k ∧ (k = true → ∀ x, J x = none → ts x cl dd (endsAs D m) (slotAs τ x m) J) ∧ (k = false → wMix K Wo D l cl dd τ J)
def NamAt (X : Cx) : Option Str → Option Nat → Prop
  | none, none => True
  | some n, some i => X.N[i]? = some n ∧ X.env.kindOf n = some .local
  | _, _ => False
inductive HdMix (X : Cx) : List ExceptHandler → List (Value × Option Nat × HdS) → Prop
  | nil : HdMix X [] []
  | cons {x : Str} {cv : Value} {ts : HdS} {st : Stmt} {rest : List Stmt} {p1 p2 : Pos} {nm : Option Str} {m : Option Nat} {hds : List ExceptHandler} {l : List (Value × Option Nat × HdS)} (nc : Names X x cv) (na : NamAt X nm m)
      (su : ∀ (x : Addr) (ob : Obj) (cl : Value) (dd : Option Addr) (pn : List (Addr × Obj)), Zc cl dd ob → (∃ vs, ob.data = .fields vs) → PSs (X.suite x ((x, ob) :: pn)) (st :: rest) (ts x cl dd)) (r : HdMix X hds l) :
      HdMix X (.ExceptHandler (some (.Name x p1)) nm (st :: rest) p2 :: hds) ((cv, m, ts) :: l)
section
variable {X : Cx} {body : List Stmt} {hd0 : ExceptHandler} {hds : List ExceptHandler} {l : List (Value × Option Nat × HdS)} {pos : Pos} {tb : WX → TS} {Wo : WX}
theorem ps_try_mix (st : X.stack = X.env :: X.outer) (fr : X.env.frame = some X.env.locals) (nd : X.N.Nodup) (tk : Takes X Wo)
    (hb : ∀ (W : WX) (pn : List (Addr × Obj)) (xe : Value → Shared → Prop), Takes (X.tr pn xe) W → PassesOwn (model X.prog X.w) X.A X.env xe → PSs (X.tr pn xe) body (tb W))
    (hh : HdMix X (hd0 :: hds) l) : PS X (.Try body (hd0 :: hds) [] [] pos) (fun D τ J => tb (wMix X.K Wo D l) D τ J) := by
  refine ⟨fun pins s τ J D I h => ?_⟩
  have ok := I.ok
  have afr : X.A.frames = some (X.env :: X.outer) := by
    rw [ok.frames]
    rw [st]
  refine wpAny_Try_except ?_
  let after : Value → Shared → Prop := fun e z1 => wpAny (model X.prog X.w) X.A (noteFrame e X.env)
    (fun _ z2 => wpAny (model X.prog X.w) X.A (setFlight e none)
      (fun _ z3 => wpAny (model X.prog X.w) X.A (handleBy e X.env (hd0 :: hds)) (SP X pins D) X.xe z3) X.xe z2) X.xe z1
  have run := (hb (wMix X.K Wo D l) (X.pn ++ pins) after (fun u z xx => ?_) PassesOwn.looking).run [] s τ J D (I.toTry _) h
  · refine wpAny_mono run (fun f z sp => ?_) (fun e z q => q)
    cases f with
    | next =>
      obtain ⟨τ1, J1, I1, q⟩ := sp
      exact wpAny_execs_nil ⟨τ1, J1, I1.ofTry ok, q⟩
    | brk =>
      obtain ⟨τ1, J1, I1, q⟩ := sp
      exact ⟨τ1, J1, I1.ofTry ok, q⟩
    | cont =>
      obtain ⟨τ1, J1, I1, q⟩ := sp
      exact ⟨τ1, J1, I1.ofTry ok, q⟩
    | ret u =>
      obtain ⟨v, τ1, J1, I1, r, q⟩ := sp
      exact ⟨v, τ1, J1, I1.ofTry ok, r, q⟩
  · -- what was caught
    obtain ⟨x, Bb, sB, pB, τ1, J1, cl, dd, rfl, I0, nb, up, sky0, nx, oo, agr, wm⟩ := xx
    have I1 : Inv X pins τ1 J1 sB := I0.ofTry ok
    have sky1 : Sky Bb (X.env :: X.outer) x (Zc cl dd) X.env.locals z.heap := by
      rw [← st]
      exact sky0
    show wpAny (model X.prog X.w) X.A (noteFrame (.ref x) X.env) _ _ _
    refine Sky.land Zc.steady afr fr sky1 fun g3 in3 u3 => ?_
    have I3 : Inv X pins τ1 J1 { z with heap := g3 } := I1.landed nb in3.1 (up.trans u3) oo agr
    obtain ⟨ob3, w3, get3, z3, dat3⟩ := in3.there
    have away : x ∉ frs (X.env :: X.outer) := fun hm => by
      obtain ⟨_, ob', get', hn⟩ := in3.2.2.1.mem hm
      rw [get3] at get'
      cases get'
      exact hn _ dat3
    have awL : x ≠ X.env.locals := fun e => away (List.mem_filterMap.mpr ⟨X.env, List.mem_cons_self, by rw [fr, e]⟩)
    have awF : x ∉ X.fs := fun hm => by
      obtain ⟨en, hen, q⟩ := List.mem_filterMap.mp hm
      exact away (List.mem_filterMap.mpr ⟨en, List.mem_cons_of_mem _ hen, q⟩)
    have S3 := I3.suite get3 dat3 nx awL awF
    suffices go : ∀ {hs2 : List ExceptHandler} {l2 : List (Value × Option Nat × HdS)}, HdMix X hs2 l2 → wMix X.K Wo D l2 cl dd τ1 J1 →
        wpAny (model X.prog X.w) X.A (handleBy (.ref x) X.env hs2) (SP X pins D) X.xe { z with heap := g3 } from go hh wm
    intro hs2 l2 hk
    induction hk with
    | nil =>
      intro w
      refine wpAny_handleBy_nil ?_
      obtain ⟨_, _, _, ob, wv, F, oF, tb', gt, zz, dt, at1, _⟩ := id in3
      unfold PySem.passOn
      refine wpAny_bind (wpAny_field gt dt at1 ?_)
      rw [if_neg (show ¬ ((Value.ref F == Value.none) = true) from by simp)]
      have out : wpAny (model X.prog X.w) X.A (setFlight (.ref x) X.env.frame)
          (fun _ z4 => wpAny (model X.prog X.w) X.A (throw (.ref x) : Sem Flow) (SP X pins D) X.xe z4) X.xe { z with heap := g3 } := by
        rw [fr]
        refine HandSPX.setFlight_upZ in3 fun g4 fl4 u4 => wpAny_throw (tk _ _ ?_)
        exact ⟨x, Bb, sB, pins, τ1, J1, cl, dd, rfl, I1, nb, (up.trans u3).trans u4, .inr (.inr (by rw [st]; exact fl4)), nx, oo, agr, w⟩
      first
        | exact wpAny_bind (wpAny_pure (wpAny_bind out))
        | exact wpAny_bind out
    | @cons y cv ts s0 rest p1 p2 nm m hs3 l3 nc na su r ih =>
      intro w
      obtain ⟨k, ek, yes, no⟩ := w
      refine wpAny_handleBy_cons (codeAny_handlers_test ?_) (by intro q; cases q)
      have ty : PySem.W.Looks (model X.prog X.w) g3 (typeOf (.ref x)) cl := fun A Q E s kk q => wpAny_typeOf_ref (kk _ _ get3) (by
        rw [z3.1]
        exact q)
      have look := PySem.W.exm_one (M := model X.prog X.w) (I3.kIn) ty ek
      have told : ∀ {Q : Value → Shared → Prop} {E : Value → Shared → Prop}, Q cv { z with heap := g3 } →
          wpAny (model X.prog X.w) (X.A.mark (some (.ref x))) (eval (.Name y p1) X.env) Q E { z with heap := g3 } := fun {Q E} q => by
        obtain ⟨gl, nd1, e1 | ⟨e1, e2, e3⟩⟩ := nc
        · exact ld_glob (X := X.suite x ((x, ob3) :: (X.pn ++ pins))) S3 gl e1 q nd1
        · exact ld_blt (X := X.suite x ((x, ob3) :: (X.pn ++ pins))) S3 gl e1 e2 q e3 nd1
      refine told (look.here ?_)
      cases k with
      | false =>
        show wpAny _ X.A (handleBy (.ref x) X.env hs3) _ _ _
        exact ih (no rfl)
      | true =>
        cases nm with
        | none =>
          cases m with
          | some i => exact na.elim
          | none =>
            refine codeAny_handlers_suite ?_
            refine HandSPX.lands_againZ in3 fun g4 in4 u4 => ?_
            have I4 : Inv X pins τ1 J1 { z with heap := g4 } := I1.landed nb in4.1 ((up.trans u3).trans u4) oo agr
            obtain ⟨ob4, w4, get4, z4, dat4⟩ := in4.there
            have S4 := I4.suite get4 dat4 nx awL awF
            refine wpAny_mono ((su x ob4 cl dd (X.pn ++ pins) z4 ⟨_, dat4⟩).run [] _ _ J1 _ S4 (yes rfl x nx)) (fun f z6 sp => ?_) (fun _ _ q => q.elim)
            cases f with
            | next =>
              obtain ⟨τ6, J6, S6, q⟩ := sp
              exact ⟨_, _, S6.unsuite ok, q⟩
            | brk =>
              obtain ⟨τ6, J6, S6, q⟩ := sp
              exact ⟨_, _, S6.unsuite ok, q⟩
            | cont =>
              obtain ⟨τ6, J6, S6, q⟩ := sp
              exact ⟨_, _, S6.unsuite ok, q⟩
            | ret u =>
              obtain ⟨v6, τ6, J6, S6, r6, q⟩ := sp
              exact ⟨_, _, _, S6.unsuite ok, r6, q⟩
        | some n =>
          cases m with
          | none => exact na.elim
          | some i =>
            obtain ⟨hN, hl⟩ := na
            refine codeAny_handlers_suite_as ?_
            refine HandSPX.lands_againZ in3 fun g4 in4 u4 => ?_
            have I4 : Inv X pins τ1 J1 { z with heap := g4 } := I1.landed nb in4.1 ((up.trans u3).trans u4) oo agr
            obtain ⟨ob4, w4, get4, z4, dat4⟩ := in4.there
            have S4 := I4.suite get4 dat4 nx awL awF
            refine store_ok (X := X.suite x ((x, ob4) :: (X.pn ++ pins))) (v := .ref x) S4 nd hN (.inl hl) rfl (fun z5 S5 => ?_) (.inr hl)
            refine wpAny_mono ((su x ob4 cl dd (X.pn ++ pins) z4 ⟨_, dat4⟩).run [] z5 _ J1 _ S5 (yes rfl x nx)) (fun f z6 sp => ?_) (fun _ _ q => q.elim)
            have over : ∀ {τ6 : St} {J6 : Hp} {Q : Shared → Prop}, Inv (X.suite x ((x, ob4) :: (X.pn ++ pins))) [] τ6 J6 z6 → (∀ z7, Inv X pins (τ6.set i none) J6 z7 → Q z7) →
                wpAny (model X.prog X.w) X.A (do bindName X.env n .none; unbindBehindTheSuite X.env n p2) (fun _ z7 => Q z7) X.xe z6 := fun {τ6 J6 Q} S6 hq => gone_ok (S6.unsuite ok) nd hN hl hq
            cases f with
            | next =>
              obtain ⟨τ6, J6, S6, q⟩ := sp
              exact over S6 fun z7 I7 => ⟨_, _, I7, q⟩
            | brk =>
              obtain ⟨τ6, J6, S6, q⟩ := sp
              exact over S6 fun z7 I7 => ⟨_, _, I7, q⟩
            | cont =>
              obtain ⟨τ6, J6, S6, q⟩ := sp
              exact over S6 fun z7 I7 => ⟨_, _, I7, q⟩
            | ret u =>
              obtain ⟨v6, τ6, J6, S6, r6, q⟩ := sp
              exact over S6 fun z7 I7 => ⟨_, _, _, I7, r6, q⟩
end

structure XP where
  a : Addr
  d : Option Addr
  c : Nat
abbrev HdF := XP → Env' → RS
def delE (e : Env') : Option Nat → Env'
  | none => e
  | some i => e.set i .un
def okM (m : Option Nat) (e : Env') : Bool := match m with | some i => canSet e i | none => true
def delS (m : Option Nat) : RS → RS
  | .nx e => if okM m e then .nx (delE e m) else .no
  | .bk e => if okM m e then .bk (delE e m) else .no
  | .ct e => if okM m e then .ct (delE e m) else .no
  | .rt r e => if okM m e then .rt r (delE e m) else .no
  | .ex _ _ => .no
  | .no => .no
noncomputable def uAll (f : Addr → Option Addr → RS) : RS := open Classical in if h : ∃ r, ∀ a d, f a d = r then h.choose else .no
theorem uAll_spec {f : Addr → Option Addr → RS} (h : uAll f ≠ .no) : ∀ a d, f a d = uAll f := by
  unfold uAll at h ⊢
  split
  · rename_i q
    exact q.choose_spec
  · rename_i q
    rw [dif_neg q] at h
    exact (h rfl).elim
theorem uAll_at {f : Addr → Option Addr → RS} {r : RS} (h : ∀ a d, f a d = r) : uAll f = r := by
  unfold uAll
  rw [dif_pos ⟨r, h⟩]
  exact ((Exists.choose_spec (p := fun r => ∀ a d, f a d = r) ⟨r, h⟩) 0 none).symm.trans (h 0 none)
def setX (m : Option Nat) (x : Ex) (a : Addr) (d : Option Addr) (e : Env') : Env' := match m with | none => e | some i => e.set i (.val (.exv a d x.c x.fs))
abbrev HdP := List (Nat × Bool) × Option Nat × HdF
noncomputable def hsGo : List HdP → Ex → Env' → RS
  | [], x, e => .ex x e
  | (M, m, u) :: l, x, e => match M.lookup x.c with
    | some true => if okM m e then uAll (fun a d => delS m (u ⟨a, d, x.c⟩ (setX m x a d e))) else .no
    | some false => hsGo l x e
    | none => .no
noncomputable def sTryM (l : List HdP) (t : Env' → RS) : Env' → RS := fun env => match t env with
  | .ex x e => hsGo l x e
  | r => r
section
variable {T : Tb} {G : Gd} {B : List (Nat × Addr)} {Z H : Hp} {σ : St} {env : Env'} {i : Nat}
theorem EOk.wipe1 (E : EOk T G B Z H σ env) (h : canSet env i = true) : EOk T G B Z H (σ.set i none) (env.set i .un) := by
  have nb : ∀ o, env[i]? ≠ some (.own true o) := fun o z => by
    unfold canSet at h
    rw [z] at h
    cases h
  have hi : i < env.length := by
    cases q : env[i]? with
    | none => unfold canSet at h; rw [q] at h; cases h
    | some w => exact (List.getElem?_eq_some_iff.mp q).1
  have own' : ∀ j b, Own (σ.set i none) (env.set i .un) j b → j ≠ i ∧ Own σ env j b := fun j b ⟨⟨b1, o, q⟩, q2⟩ => by
    by_cases hj : i = j
    · subst hj
      rw [List.getElem?_set_self hi] at q
      cases q
    · rw [List.getElem?_set_ne hj] at q q2
      exact ⟨fun z => hj z.symm, ⟨b1, o, q⟩, q2⟩
  refine ⟨by rw [List.length_set, List.length_set]; exact E.len, E.sub, E.nof, E.keep, fun j d q => ?_, fun j b o q => ?_, fun j b q => ?_, fun j k b n o1 o2 => E.dis j k b n (own' j b o1).2 (own' k b o2).2⟩
  · by_cases hj : i = j
    · subst hj
      rw [List.getElem?_set_self hi] at q
      cases q
    · rw [List.getElem?_set_ne hj] at q ⊢
      exact E.val j d q
  · by_cases hj : i = j
    · subst hj
      rw [List.getElem?_set_self hi] at q
      cases q
    · rw [List.getElem?_set_ne hj] at q
      obtain ⟨a, ho, q1, q2⟩ := E.own j b o q
      exact ⟨a, ho, by rw [List.getElem?_set_ne hj]; exact q1, q2⟩
  · obtain ⟨⟨o2, q1⟩, q2⟩ := E.bor j b q
    have hj : i ≠ j := fun z => nb o2 (by rw [z]; exact q1)
    exact ⟨⟨o2, by rw [List.getElem?_set_ne hj]; exact q1⟩, by rw [List.getElem?_set_ne hj]; exact q2⟩
theorem RRep.wipe1 {v : V} {r : RV} (hi : canSet env i = true) (h : RRep T G Z H σ env v r) : RRep T G Z H (σ.set i none) (env.set i .un) v r := by
  have hi : i < env.length := by
    cases q : env[i]? with
    | none => unfold canSet at hi; rw [q] at hi; cases hi
    | some w => exact (List.getElem?_eq_some_iff.mp q).1
  cases r with
  | d d => exact h
  | o o =>
    obtain ⟨a, ho, e1, e2, e3, e4, e5, e6⟩ := h
    refine ⟨a, ho, e1, e2, e3, e4, e5, fun j ⟨⟨b, o', q⟩, q2⟩ => ?_⟩
    by_cases hj : i = j
    · subst hj
      rw [List.getElem?_set_self hi] at q
      cases q
    · rw [List.getElem?_set_ne hj] at q q2
      exact e6 j ⟨⟨b, o', q⟩, q2⟩
theorem prs_del {K : Ends} {m : Option Nat} {Wo : WX} {r : RS} (h : PRS T Wo G B Z K (delS m r)) : PRS T W0 G B Z (endsAs K m) r := by
  cases r with
  | ex x e => exact h.elim
  | no => exact h.elim
  | nx e =>
    cases m with
    | none => exact h
    | some i =>
      have h : PRS T Wo G B Z K (if canSet e i = true then .nx (e.set i .un) else .no) := h
      by_cases hc : canSet e i = true
      · rw [if_pos hc] at h
        exact fun σ' H' Z' s E => h _ H' Z' s (E.wipe1 hc)
      · rw [if_neg hc] at h
        exact h.elim
  | bk e =>
    cases m with
    | none => exact h
    | some i =>
      have h : PRS T Wo G B Z K (if canSet e i = true then .bk (e.set i .un) else .no) := h
      by_cases hc : canSet e i = true
      · rw [if_pos hc] at h
        exact fun σ' H' Z' s E => h _ H' Z' s (E.wipe1 hc)
      · rw [if_neg hc] at h
        exact h.elim
  | ct e =>
    cases m with
    | none => exact h
    | some i =>
      have h : PRS T Wo G B Z K (if canSet e i = true then .ct (e.set i .un) else .no) := h
      by_cases hc : canSet e i = true
      · rw [if_pos hc] at h
        exact fun σ' H' Z' s E => h _ H' Z' s (E.wipe1 hc)
      · rw [if_neg hc] at h
        exact h.elim
  | rt r e =>
    cases m with
    | none => exact h
    | some i =>
      have h : PRS T Wo G B Z K (if canSet e i = true then .rt r (e.set i .un) else .no) := h
      by_cases hc : canSet e i = true
      · rw [if_pos hc] at h
        exact fun v σ' H' Z' s E rr => h v _ H' Z' s (E.wipe1 hc) (rr.wipe1 hc)
      · rw [if_neg hc] at h
        exact h.elim
end
section
variable {X : Cx} {T : Tb} {W : WX} {body suite : List Stmt} {st : Stmt} {hd0 : ExceptHandler} {hds : List ExceptHandler} {pos : Pos} {t : Env' → RS}
inductive HdsS (X : Cx) (T : Tb) : List ExceptHandler → List HdP → List (Value × Option Nat × HdS) → Prop
  | nil : HdsS X T [] [] []
  | cons {x : Str} {cv : Value} {u : HdF} {st : Stmt} {rest : List Stmt} {p1 p2 : Pos} {nm : Option Str} {m : Option Nat} {hds : List ExceptHandler} {M : List (Nat × Bool)} {l : List HdP} {l2 : List (Value × Option Nat × HdS)} (hM : ExmF X.K T cv M) (nc : Names X x cv) (na : NamAt X nm m)
      (su : ∀ (xp : XP) (ob : Obj) (pn : List (Addr × Obj)), Zc (.ref (T.ec xp.c)) xp.d ob → (∃ vs, ob.data = .fields vs) → SSs (X.suite xp.a ((xp.a, ob) :: pn)) T W0 (st :: rest) (u xp)) (r : HdsS X T hds l l2) :
      HdsS X T (.ExceptHandler (some (.Name x p1)) nm (st :: rest) p2 :: hds) ((M, m, u) :: l) ((cv, m, fun x cl dd D σ H => ∃ c, cl = .ref (T.ec c) ∧ tXS T W0 (u ⟨x, dd, c⟩) D σ H) :: l2)
theorem HdsS.mix {hds : List ExceptHandler} {l : List HdP} {l2 : List (Value × Option Nat × HdS)} (h : HdsS X T hds l l2) : HdMix X hds l2 := by
  induction h with
  | nil => exact .nil
  | cons hM nc na su r ih => exact .cons nc na (fun x ob cl dd pn hz hf => ⟨fun pins s σ H D I ⟨c, ec, q⟩ => by subst ec; exact (su ⟨x, dd, c⟩ ob pn hz hf).run pins s σ H D I q⟩) ih
theorem hs_wish {G : Gd} {B : List (Nat × Addr)} {Z : Hp} {K : Ends} {hds : List ExceptHandler} {l : List HdP} {l2 : List (Value × Option Nat × HdS)} (h : HdsS X T hds l l2) {x : Ex} {e : Env'} (q : PRS T W G B Z K (hsGo l x e)) :
    ∀ cls d σ' H' Z', Same Z Z' → EOk T G B Z' H' σ' e → XRep T Z' H' cls d x → wMix X.K W K l2 cls d σ' H' := by
  induction h with
  | nil => exact fun cls d σ' H' Z' s E r => q cls d σ' H' Z' s E r
  | @cons y cv u st rest p1 p2 nm m hds M l l2 hM nc na su r ih =>
    intro cls d σ' H' Z' s E rx
    unfold hsGo at q
    cases hl : M.lookup x.c with
    | none => rw [hl] at q; exact q.elim
    | some k =>
      rw [hl] at q
      obtain ⟨ec, rd⟩ := id rx
      refine ⟨k, by rw [ec]; exact hM _ _ hl, fun hk a ha => ?_, fun hk => ?_⟩
      · subst hk
        dsimp only at q
        by_cases hc : okM m e = true
        · rw [if_pos hc] at q
          have hno : uAll (fun a d => delS m (u ⟨a, d, x.c⟩ (setX m x a d e))) ≠ .no := fun z => by rw [z] at q; exact q.elim
          have hu := uAll_spec hno a d
          refine ⟨x.c, ec, G, B, Z', setX m x a d e, ?_, ?_⟩
          · cases m with
            | none => exact E
            | some i =>
              refine E.store (r := .d (.exv a d x.c x.fs)) hc ?_
              show Rep T Z' (.ref a) (.exv a d x.c x.fs)
              rcases rd with ⟨r1, r2, r3⟩ | ⟨dd, vs, r1, r2, r3, r4, r5⟩
              · rw [r2, r3]; exact .exv0
              · rw [r2]; exact .exv r3 r4 r5
          · refine prs_del (Wo := W) ?_
            rw [hu]
            exact PRS.mono s q
        · rw [if_neg hc] at q
          exact q.elim
      · subst hk
        exact ih q cls d σ' H' Z' s E rx
theorem ss_tryM {l : List HdP} {l2 : List (Value × Option Nat × HdS)} (hN : X.N.Nodup) (hh : HdsS X T (hd0 :: hds) l l2) (tk : Takes X W)
    (hb : ∀ (W' : WX) (pn : List (Addr × Obj)) (xe : Value → Shared → Prop), Takes (X.tr pn xe) W' → PassesOwn (model X.prog X.w) X.A X.env xe → SSs (X.tr pn xe) T W' body t)
    (hs : X.stack = X.env :: X.outer := by rfl) (hf : X.env.frame = some X.env.locals := by rfl) :
    SS X T W (.Try body (hd0 :: hds) [] [] pos) (sTryM l t) := by
  refine PS.weak (ps_try_mix (Wo := W) (tb := fun W' => tXS T W' t) hs hf hN tk hb hh.mix) fun K σ H ⟨G, B, Z, env, E, q⟩ => ⟨G, B, Z, env, E, ?_⟩
  unfold sTryM at q
  cases ht : t env with
  | ex y e =>
    rw [ht] at q
    exact hs_wish hh q
  | nx e => rw [ht] at q; exact q
  | bk e => rw [ht] at q; exact q
  | ct e => rw [ht] at q; exact q
  | rt r e => rw [ht] at q; exact q
  | no => rw [ht] at q; exact q.elim
end
section
variable {X : Cx} {T : Tb} {xp : XP} {ob : Obj} {pn : List (Addr × Obj)} {pos p p0 p1 : Pos}
def cXf (xp : XP) (i : Nat) (al : List (Nat × Nat)) : Env' → R := fun env => match env[i]? with
  | some (.val (.exv a d c fs)) => if a = xp.a ∧ d = xp.d ∧ c = xp.c then (match al.lookup c with | some k => (match fs[k]? with | some y => .ok (.d y) env | none => .no) | none => .no) else .no
  | _ => .no
structure XfF (K : PySem.W.Frag) (T : Tb) (al : List (Nat × Nat)) (n : Str) : Prop where
  x : ∀ c k, al.lookup c = some k → XfC K (T.ec c) ∧ PySem.W.findIn K (.ref (T.ec c)) n = some none ∧ (T.ef c)[k]? = some n ∧ (T.ef c).Nodup
theorem zip_at {α β : Type} [BEq α] [LawfulBEq α] : ∀ {l : List α} {vs : List β} {k : Nat} {n : α} {v : β}, l.Nodup → l[k]? = some n → vs[k]? = some v → (l.zip vs).lookup n = some v
  | [], _, _, _, _, _, h, _ => by simp at h
  | _ :: _, [], _, _, _, _, _, h => by simp at h
  | a :: l, b :: vs, 0, n, v, _, h1, h2 => by
    simp at h1 h2
    subst h1; subst h2
    simp
  | a :: l, b :: vs, k + 1, n, v, nd, h1, h2 => by
    have hm : n ∈ l := List.mem_of_getElem? (i := k) (by simpa using h1)
    have hne : (n == a) = false := by
      have : n ≠ a := fun e => (List.nodup_cons.mp nd).1 (by rw [← e]; exact hm)
      simpa using this
    show List.lookup n ((a, b) :: l.zip vs) = some v
    rw [List.lookup_cons, hne]
    exact zip_at (List.nodup_cons.mp nd).2 (by simpa using h1) (by simpa using h2)
theorem se_xf (i : Nat) {x n : Str} {al : List (Nat × Nat)} (F : XfF X.K T al n) (hz : Zc (.ref (T.ec xp.c)) xp.d ob) (hf : ∃ vs, ob.data = .fields vs) (hN : X.N[i]? = some x := by rfl) (hv : Vis X.env.scope x := by first | exact Or.inl rfl | exact Or.inr (Or.inl rfl) | exact Or.inr (Or.inr rfl))
    (hd : (x == ("__debug__" : Str)) = false := by decide) (hcd : (x == ("__classdict__" : Str)) = false := by decide) (hb : attributeBase (.Name x p) n X.env (eval (.Name x p) X.env) = eval (.Name x p) X.env := by rfl) :
    SE (X.suite xp.a ((xp.a, ob) :: pn)) T W0 (.Attribute (.Name x p) n pos) (cXf xp i al) := by
  by_cases hal : ∃ k, al.lookup xp.c = some k
  · obtain ⟨k, hk⟩ := hal
    obtain ⟨F1, F2, F3, F4⟩ := F.x _ _ hk
    refine PE.weak (pe_xf F1 F2 hz hf (pe_var (X := X.suite xp.a ((xp.a, ob) :: pn)) hN hv hd hcd) hb) fun σ H Q ⟨G, B, Z, env, E, q⟩ => ?_
    unfold cXf at q
    split at q
    · rename_i a d c fs hi
      split at q
      · rename_i he
        obtain ⟨rfl, rfl, rfl⟩ := he
        rw [hk] at q
        dsimp only at q
        obtain ⟨v, e1, r⟩ := E.val i _ hi
        cases hy : fs[k]? with
        | none => rw [hy] at q; exact q.elim
        | some y =>
          rw [hy] at q
          generalize hd' : xp.d = dd at r
          cases r with
          | exv0 => simp at hy
          | @exv _ dd vs _ _ hZ hl rs =>
            obtain ⟨w, h1, h2⟩ := rs.get hy
            exact ⟨_, e1, rfl, rfl, dd, _, w, rfl, E.sub _ _ hZ, zip_at F4 F3 h1, q w H Z (Same.refl _) E h2⟩
      · exact q.elim
    · exact q.elim
  · refine ⟨fun pins s σ H Q I ⟨G, B, Z, env, E, q⟩ => ?_⟩
    unfold cXf at q
    split at q
    · rename_i a d c fs hi
      split at q
      · rename_i he
        obtain ⟨rfl, rfl, rfl⟩ := he
        cases hk : al.lookup xp.c with
        | none => rw [hk] at q; exact q.elim
        | some k => exact (hal ⟨k, hk⟩).elim
      · exact q.elim
    · exact q.elim
end
section
variable {X : Cx} {T : Tb} {W : WX} {e : Expr} {es : List Expr} {st : Stmt} {sts : List Stmt} {tg it : Expr}
def cNoE : Env' → R := fun _ => .no
def cNoT : Env' → RT := fun _ => .no
def cNoA : Env' → RA := fun _ => .no
def sNoS : Env' → RS := fun _ => .no
def iNo : Env' → RI := fun _ => .no
theorem se_no : SE X T W e cNoE := ⟨fun _ _ _ _ _ _ ⟨_, _, _, _, _, q⟩ => q.elim⟩
theorem st_no : ST X T W e cNoT := ⟨fun _ _ _ _ _ _ ⟨_, _, _, _, _, q⟩ => q.elim⟩
theorem sa_no : SA X T W es cNoA := ⟨fun _ _ _ _ _ _ _ ⟨_, _, _, _, _, q⟩ => q.elim⟩
theorem ss_no : SS X T W st sNoS := ⟨fun _ _ _ _ _ _ ⟨_, _, _, _, _, q⟩ => q.elim⟩
theorem sss_no : SSs X T W sts sNoS := ⟨fun _ _ _ _ _ _ ⟨_, _, _, _, _, q⟩ => q.elim⟩
theorem si_no : SI X T W tg it iNo := ⟨fun _ _ _ _ _ _ ⟨_, _, _, _, _, q⟩ => q.elim⟩
end
end L2.S

set_option Elab.async false
set_option linter.all false
set_option maxRecDepth 100000
set_option maxHeartbeats 4000000
namespace L2.S
open PySem PySem.Spec PyProof.Rows
section
variable {X : Cx} {T : Tb} {xp : XP} {ob : Obj} {pn : List (Addr × Obj)} {pos p p0 p1 : Pos}
def DicAt (H : Hp) : Option Addr → Prop
  | none => True
  | some dd => ∃ fs, H dd = some (.xd fs)
theorem exc_inst {pins : List (Addr × Obj)} {σ : St} {H : Hp} {s : Shared} {C : Addr} (I : Inv (X.suite xp.a ((xp.a, ob) :: pn)) pins σ H s) (hz : Zc (.ref C) xp.d ob) (hf : ∃ vs, ob.data = .fields vs) (hd : DicAt H xp.d) : ∃ od, PySem.W.InstAt s.heap xp.a ob C od := by
  obtain ⟨get, _⟩ := I.pin (xp.a, ob) (List.mem_append_left _ List.mem_cons_self)
  obtain ⟨vs, hv⟩ := hf
  cases q : xp.d with
  | none =>
    rw [q] at hz
    exact ⟨none, get, hz.1, by unfold PySem.W.notCls; rw [hv] <;> rfl, by rw [hz.2]; trivial⟩
  | some dd =>
    rw [q] at hz hd
    obtain ⟨fs, ed⟩ := hd
    have ok : ObjOk X.prog X.w H s.heap dd (.xd fs) := I.hok dd _ ed
    obtain ⟨mA, hns, _⟩ := ok
    obtain ⟨od, ho, _⟩ := lookIn_ns hns
    exact ⟨some od, get, hz.1, by unfold PySem.W.notCls; rw [hv] <;> rfl, by rw [hz.2]; exact ho⟩
theorem exc_kit {K : PySem.W.Frag} {D x : Addr} {ox : Obj} {od : Option Obj} (C : ExcC K D) : PySem.W.KitX K (.ref x) (.ref D) (fun h => PySem.W.InstAt h x ox D od) := by
  obtain ⟨cd, hcd, _⟩ := PySem.W.any_some C.hd
  exact PySem.W.kitx_exc (by rw [hcd]; rfl) C.hg C.hk C.hs C.ha C.hn C.ht C.hm
def rIsX (K : PySem.W.Frag) (D a : Addr) (d : Option Addr) : List V → Hp → VK → Prop := fun xs H Q => ∃ (c : V) (cv : Value) (b : Bool), xs = [.ref a, c] ∧ ClsV c cv ∧ DicAt H d ∧ PySem.W.kitOne K (.ref D) cv = some b ∧ Q (.bl b) H
theorem call_isX {D : Addr} (C : ExcC X.K D) (hz : Zc (.ref D) xp.d ob) (hf : ∃ vs, ob.data = .fields vs) : CallR (X.suite xp.a ((xp.a, ob) :: pn)) (.builtin "isinstance") (rIsX X.K D xp.a xp.d) := by
  intro pins s σ H xs us Q I r h
  obtain ⟨c, cv, b, rfl, hcv, hd, e, q⟩ := h
  obtain ⟨u1, u2, rfl, r1, r2⟩ := vals2 r
  have ec := hcv.eq r2
  subst ec
  cases (show u1 = Value.ref xp.a from r1)
  obtain ⟨od, J⟩ := exc_inst I hz hf hd
  exact PySem.W.kia_one (exc_kit C) I.kIn J e (fun z => nomatch z) fun tk => ⟨.bl b, H, I.kept (t' := tk) fun _ _ z => z, rfl, q⟩
def rIsXT (K : PySem.W.Frag) (D a : Addr) (d : Option Addr) : List V → Hp → VK → Prop := fun xs H Q => ∃ (tp : Addr) (cs : List V) (us : List Value) (b : Bool), xs = [.ref a, .ref tp] ∧ H tp = some (.tup cs) ∧ Paired ClsV cs us ∧ DicAt H d ∧ PySem.W.kitAny K (.ref D) us = some b ∧ Q (.bl b) H
theorem call_isXT {D : Addr} (C : ExcC X.K D) (hz : Zc (.ref D) xp.d ob) (hf : ∃ vs, ob.data = .fields vs) : CallR (X.suite xp.a ((xp.a, ob) :: pn)) (.builtin "isinstance") (rIsXT X.K D xp.a xp.d) := by
  intro pins s σ H xs us Q I r h
  obtain ⟨tp, cs, ws, b, rfl, hT, hcv, hd, e, q⟩ := h
  obtain ⟨u1, u2, rfl, r1, r2⟩ := vals2 r
  cases (show u1 = Value.ref xp.a from r1)
  cases (show u2 = Value.ref tp from r2)
  obtain ⟨od, J⟩ := exc_inst I hz hf hd
  have hok : ObjOk X.prog X.w H s.heap tp (.tup cs) := I.hok tp _ hT
  obtain ⟨_, its, rv, o, g1, g2, n, g3⟩ := hok
  have e3 := ClsV.all hcv rv
  subst e3
  obtain ⟨oc, od2, dt, sl⟩ := o
  simp only at g2 g3
  subst g2 g3
  exact PySem.W.kia_tup (exc_kit C) I.kIn J g1 e (fun z => nomatch z) fun tk => ⟨.bl b, H, I.kept (t' := tk) fun _ _ z => z, rfl, q⟩
def cIsx (xp : XP) (i : Nat) (M : List (Nat × Bool)) : Env' → R := fun env => match env[i]? with
  | some (.val (.exv a d c fs)) => if a = xp.a ∧ d = xp.d ∧ c = xp.c then (match M.lookup c with | some b => .ok (.d (.bl b)) env | none => .no) else .no
  | _ => .no
def IsxF (K : PySem.W.Frag) (T : Tb) (us : List Value) (M : List (Nat × Bool)) : Prop := ∀ c b, M.lookup c = some b → ExcC K (T.ec c) ∧ PySem.W.kitAny K (.ref (T.ec c)) us = some b
theorem isx_0 {K : PySem.W.Frag} {us : List Value} : IsxF K T us [] := fun c b h => by simp at h
theorem isx_c {K : PySem.W.Frag} {us : List Value} {M : List (Nat × Bool)} {c : Nat} {b : Bool} (C : ExcC K (T.ec c)) (h : PySem.W.kitAny K (.ref (T.ec c)) us = some b) (r : IsxF K T us M) : IsxF K T us ((c, b) :: M) := fun c' b' q => by
  rw [List.lookup_cons] at q
  cases z : c' == c with
  | true =>
    rw [z] at q; cases q
    have := eq_of_beq z
    subst this
    exact ⟨C, h⟩
  | false => rw [z] at q; exact r c' b' q
theorem isx_at {G : Gd} {B : List (Nat × Addr)} {Z H : Hp} {σ : St} {env : Env'} {Q : VK} {i : Nat} {M : List (Nat × Bool)} (E : EOk T G B Z H σ env) (q : PR T W0 G B Z σ Q (cIsx xp i M env)) :
    ∃ b, M.lookup xp.c = some b ∧ σ[i]? = some (some (.ref xp.a)) ∧ DicAt H xp.d ∧ PR T W0 G B Z σ Q (.ok (.d (.bl b)) env) := by
  unfold cIsx at q
  split at q
  · rename_i a d c fs hi
    split at q
    · rename_i he
      obtain ⟨rfl, rfl, rfl⟩ := he
      cases hk : M.lookup xp.c with
      | none => rw [hk] at q; exact q.elim
      | some b =>
        rw [hk] at q
        obtain ⟨v, e1, r⟩ := E.val i _ hi
        generalize hd' : xp.d = dd at r
        cases r with
        | exv0 => exact ⟨b, rfl, e1, True.intro, q⟩
        | @exv _ dd vs _ _ hZ hl rs => exact ⟨b, rfl, e1, ⟨_, E.sub _ _ hZ⟩, q⟩
    · exact q.elim
  · exact q.elim
theorem se_isx (i : Nat) {x : Str} {b : Expr} {M : List (Nat × Bool)} {v : V} {u : Value} (hM : IsxF X.K T [u] M) (hv : ClsV v u) (hm : X.mg "isinstance" = none) (hz : Zc (.ref (T.ec xp.c)) xp.d ob) (hf : ∃ vs, ob.data = .fields vs)
    (hb : PE (X.suite xp.a ((xp.a, ob) :: pn)) b (tC v)) (hN : X.N[i]? = some x := by rfl) (hvi : Vis X.env.scope x := by first | exact Or.inl rfl | exact Or.inr (Or.inl rfl) | exact Or.inr (Or.inr rfl)) (hdb : (x == ("__debug__" : Str)) = false := by decide) (hcd : (x == ("__classdict__" : Str)) = false := by decide) (hg : Gl X "isinstance" := by rfl)
    (he : starEach [.Name x p0, b] X.env = (false, eval (.Name x p0) X.env) :: starEach [b] X.env := by rfl) (he2 : starEach [b] X.env = (false, eval b X.env) :: starEach [] X.env := by rfl) (hpl : (backTo pos (starEach [b] X.env)).any (·.1) = false := by rfl)
    (hbt : bootBuiltins "isinstance" = some (.builtin "isinstance") := by decide +kernel) : SE (X.suite xp.a ((xp.a, ob) :: pn)) T W0 (.Call (.Name "isinstance" p) [.Name x p0, b] [] pos) (cIsx xp i M) := by
  by_cases hl : ∃ k, M.lookup xp.c = some k
  · obtain ⟨k, hk⟩ := hl
    obtain ⟨C, hkit⟩ := hM _ _ hk
    refine PE.weak (pe_callB (call_isX C hz hf) hg hm hbt (pa_cons (pe_var (X := X.suite xp.a ((xp.a, ob) :: pn)) hN hvi hdb hcd) (pa_cons hb pa_nil he2) he) (he := he) (hpl := hpl)) fun σ H Q ⟨G, B, Z, env, E, q⟩ => ?_
    obtain ⟨b', e1, e2, e3, q1⟩ := isx_at E q
    exact ⟨_, e2, v, u, b', rfl, hv, e3, kitAny_one (by rw [e1] at hk; cases hk; exact hkit), q1 _ _ Z (Same.refl _) E (.bl _)⟩
  · refine ⟨fun pins s σ H Q I ⟨G, B, Z, env, E, q⟩ => ?_⟩
    obtain ⟨b', e1, _⟩ := isx_at E q
    exact (hl ⟨_, e1⟩).elim
theorem se_isxT (i : Nat) {x : Str} {M : List (Nat × Bool)} {cs : List V} {us : List Value} {bs : List Expr} {n : Nat} {p2 : Pos} (hM : IsxF X.K T us M) (hv : Paired ClsV cs us) (hm : X.mg "isinstance" = none) (hz : Zc (.ref (T.ec xp.c)) xp.d ob) (hf : ∃ vs, ob.data = .fields vs)
    (hb : PA (X.suite xp.a ((xp.a, ob) :: pn)) bs (tVs cs)) (hcs : cs.length ≤ 16777216 := by simp) (hN : X.N[i]? = some x := by rfl) (hvi : Vis X.env.scope x := by first | exact Or.inl rfl | exact Or.inr (Or.inl rfl) | exact Or.inr (Or.inr rfl)) (hdb : (x == ("__debug__" : Str)) = false := by decide) (hcd : (x == ("__classdict__" : Str)) = false := by decide) (hg : Gl X "isinstance" := by rfl)
    (he : starEach [.Name x p0, .Tuple bs n p2] X.env = (false, eval (.Name x p0) X.env) :: starEach [.Tuple bs n p2] X.env := by rfl) (he2 : starEach [.Tuple bs n p2] X.env = (false, eval (.Tuple bs n p2) X.env) :: starEach [] X.env := by rfl) (hpl : (backTo pos (starEach [.Tuple bs n p2] X.env)).any (·.1) = false := by rfl)
    (hbt : bootBuiltins "isinstance" = some (.builtin "isinstance") := by decide +kernel) : SE (X.suite xp.a ((xp.a, ob) :: pn)) T W0 (.Call (.Name "isinstance" p) [.Name x p0, .Tuple bs n p2] [] pos) (cIsx xp i M) := by
  by_cases hl : ∃ k, M.lookup xp.c = some k
  · obtain ⟨k, hk⟩ := hl
    obtain ⟨C, hkit⟩ := hM _ _ hk
    refine PE.weak (pe_callB (call_isXT C hz hf) hg hm hbt (pa_cons (pe_var (X := X.suite xp.a ((xp.a, ob) :: pn)) hN hvi hdb hcd) (pa_cons (pe_tup hb) pa_nil he2) he) (he := he) (hpl := hpl)) fun σ H Q ⟨G, B, Z, env, E, q⟩ => ?_
    obtain ⟨b', e1, e2, e3, q1⟩ := isx_at E q
    refine ⟨_, e2, tVs_at ⟨by rw [SZ_eq]; exact hcs, fun tp htp => ?_⟩⟩
    have E2 := E.new htp (o := .tup cs)
    refine ⟨tp, cs, us, b', rfl, upd_same, hv, ?_, by rw [e1] at hk; cases hk; exact hkit, q1 _ _ Z (Same.refl _) E2 (.bl _)⟩
    cases hd : xp.d with
    | none => trivial
    | some dd =>
      rw [hd] at e3
      obtain ⟨fs, e4⟩ := e3
      exact ⟨fs, by rw [upd_ne (ne_of_none e4 htp)]; exact e4⟩
  · refine ⟨fun pins s σ H Q I ⟨G, B, Z, env, E, q⟩ => ?_⟩
    obtain ⟨b', e1, _⟩ := isx_at E q
    exact (hl ⟨_, e1⟩).elim
end
end L2.S
namespace L2.S
open PySem PySem.Spec PyProof.Rows
theorem xff_0 {K : PySem.W.Frag} {T : Tb} {n : Str} : XfF K T [] n := ⟨fun c k h => by simp at h⟩
theorem xff_c {K : PySem.W.Frag} {T : Tb} {n : Str} {al : List (Nat × Nat)} {c k : Nat} (h1 : XfC K (T.ec c)) (h2 : PySem.W.findIn K (.ref (T.ec c)) n = some none) (h4 : (T.ef c).Nodup) (r : XfF K T al n) (h3 : (T.ef c)[k]? = some n := by rfl) : XfF K T ((c, k) :: al) n := ⟨fun c' k' q => by
  rw [List.lookup_cons] at q
  cases z : c' == c with
  | true =>
    rw [z] at q; cases q
    have := eq_of_beq z
    subst this
    exact ⟨h1, h2, h3, h4⟩
  | false => rw [z] at q; exact r.x c' k' q⟩
end L2.S

set_option Elab.async false
set_option linter.all false
set_option maxRecDepth 100000
set_option maxHeartbeats 4000000
namespace L2.S
section
variable {e : Env'} {Q : R → Prop} {f g h : Env' → R} {fa : Env' → RA} {c : Env' → RT}
def sldK (Q : R → Prop) (e : Env') (c k : Nat) : SV → Prop
  | .own true (.s c' xs) => if c' = c then (match xs[k]? with | some y => Q (.ok (.d y) e) | none => Q .no) else Q .no
  | _ => Q .no
theorem Zgd {c k y xs} (h : xs[k]? = some y) : sldK Q e c k (.own true (.s c xs)) = Q (.ok (.d y) e) := by
  show (if c = c then (match xs[k]? with | some y => Q (.ok (.d y) e) | none => Q .no) else Q .no) = _
  rw [h, if_pos rfl]
theorem Zgc {i c k} : wp (cSfld i c k) e Q = getN e i (sldK Q e c k) (Q .no) := by
  unfold wp cSfld getN sldK
  cases e[i]? with
  | none => rfl
  | some x => cases x with
    | own b o => cases b <;> cases o with
      | l _ => rfl
      | s c' xs =>
        first
          | rfl
          | (dsimp only
             by_cases h : c' = c
             · simp only [h, if_true]
               cases xs[k]? <;> rfl
             · simp only [h, if_false])
    | _ => rfl
end
section
variable {e : Env'} {Q : RS → Prop} {f g h : Env' → R} {c : Env' → RT} {t u : Env' → RS}
def sfdK (Q : RS → Prop) (e : Env') (i c k : Nat) (d : D) : SV → Prop
  | .own true (.s c' xs) => if c' = c ∧ xs.length = k then putN e i (.own true (.s c (xs ++ [d]))) fun e2 => Q (.nx e2) else Q .no
  | _ => Q .no
theorem Zgf {i c k d xs} (h : xs.length = k) : sfdK Q e i c k d (.own true (.s c xs)) = putN e i (.own true (.s c (xs ++ [d]))) fun e2 => Q (.nx e2) := by
  exact if_pos ⟨rfl, h⟩
theorem Zge {i c k} : wp (sFld0 i c k f) e Q = wp f e (bK Q fun d e1 => getN e1 i (sfdK Q e1 i c k d) (Q .no)) := by
  unfold wp sFld0
  refine (R_bindS_wp (Q := Q)).trans ?_
  congr 1
  funext d e1
  unfold getN sfdK putN
  cases e1[i]? with
  | none => rfl
  | some x => cases x with
    | own b o => cases b <;> cases o with
      | l _ => rfl
      | s c' xs =>
        first
          | rfl
          | (dsimp only
             by_cases h : c' = c ∧ xs.length = k
             · rw [if_pos h, if_pos h]
             · rw [if_neg h, if_neg h])
    | _ => rfl
theorem Zgg {c} : wp (sRaise c) e Q = Q (.ex ⟨c, []⟩ e) := rfl
def tryK (l : List HdP) (Q : RS → Prop) : RS → Prop
  | .ex x e => Q (hsGo l x e)
  | r => Q r
theorem Zgh {l} : wp (sTryM l t) e Q = wp t e (tryK l Q) := by
  unfold wp sTryM tryK
  cases t e <;> rfl
section
variable {l : List HdP} {x : Ex}
theorem Zgi : tryK l Q (.nx e) = Q (.nx e) := rfl
theorem Zgj {r} : tryK l Q (.rt r e) = Q (.rt r e) := rfl
theorem Zgk : tryK l Q (.bk e) = Q (.bk e) := rfl
theorem Zgl : tryK l Q (.ct e) = Q (.ct e) := rfl
def hsK (l : List HdP) (x : Ex) (e : Env') (Q : RS → Prop) (_ : Pin (l, x, e, Q) := ⟨⟩) : Prop := Q (hsGo l x e)
theorem Zgm : tryK l Q (.ex x e) = hsK l x e Q := rfl
theorem Zgn : hsK [] x e Q = Q (.ex x e) := rfl
def hs1 (o : Option Bool) (m : Option Nat) (u : HdF) (l : List HdP) (x : Ex) (e : Env') (Q : RS → Prop) (_ : Pin (m, u, l, x, e, Q) := ⟨⟩) : Prop := match o with
  | some true => Q (if okM m e then uAll (fun a d => delS m (u ⟨a, d, x.c⟩ (setX m x a d e))) else .no)
  | some false => hsK l x e Q
  | none => Q .no
theorem Zgo {M m u} : hsK ((M, m, u) :: l) x e Q = hs1 (M.lookup x.c) m u l x e Q := by
  unfold hsK hs1
  conv => lhs; unfold hsGo
  cases M.lookup x.c with
  | none => rfl
  | some b => cases b <;> rfl
theorem Zgp {m u} : hs1 (some false) m u l x e Q = hsK l x e Q := rfl
def delK (m : Option Nat) (Q : RS → Prop) : RS → Prop := fun r => Q (delS m r)
def setXK (m : Option Nat) (x : Ex) (a : PySem.Addr) (d : Option PySem.Addr) (e : Env') (K : Env' → Prop) (_ : Pin (m, x, a, d, e, K) := ⟨⟩) : Prop := K (setX m x a d e)
theorem Zgq {a d K} : setXK none x a d e K = K e := rfl
theorem Zgr {i a d c fs K} : setXK (some i) ⟨c, fs⟩ a d e K = putN e i (.val (.exv a d c fs)) K := rfl
theorem hs1_t {m : Option Nat} {u : HdF} {r : RS} (ho : okM m e = true) (h : ∀ a d, setXK m x a d e fun e' => wp (u ⟨a, d, x.c⟩) e' (delK m fun r' => r' = r)) (q : Q r) : hs1 (some true) m u l x e Q := by
  show Q (if okM m e = true then _ else _)
  rw [if_pos ho, uAll_at (r := r) h]
  exact q
section
variable {i : Nat}
theorem Zgs : delK none Q (.nx e) = Q (.nx e) := rfl
theorem Zgt {r} : delK none Q (.rt r e) = Q (.rt r e) := rfl
def delN (e : Env') (i : Nat) (k : Env' → Prop) (N : Prop) : Prop := if canSet e i then k (e.set i .un) else N
theorem delN_e {k N} : delN e i k N = setN e i .un k N := rfl
theorem Zgu : delK (some i) Q (.nx e) = setN e i .un (fun e => Q (.nx e)) (Q .no) := by
  show Q (if canSet e i = true then _ else _) = if canSet e i = true then _ else _
  by_cases h : canSet e i = true
  · rw [if_pos h, if_pos h]; rfl
  · rw [if_neg h, if_neg h]
theorem Zgv {r} : delK (some i) Q (.rt r e) = setN e i .un (fun e => Q (.rt r e)) (Q .no) := by
  show Q (if canSet e i = true then _ else _) = if canSet e i = true then _ else _
  by_cases h : canSet e i = true
  · rw [if_pos h, if_pos h]; rfl
  · rw [if_neg h, if_neg h]
end
end
end
section
variable {e : Env'} {Q : R → Prop} {xp : XP} {i : Nat}
def exvK (N : Prop) (k : PySem.Addr → Option PySem.Addr → Nat → List D → Prop) : SV → Prop
  | .val (.exv a d c fs) => k a d c fs
  | _ => N
theorem Zgw {N k a d c fs} : exvK N k (.val (.exv a d c fs)) = k a d c fs := rfl
theorem Zgx {al} : wp (cXf xp i al) e Q = getN e i (exvK (Q .no) fun a d c fs => iteK (decide (a = xp.a ∧ d = xp.d ∧ c = xp.c)) (oK (al.lookup c) (Q .no) fun k => oK fs[k]? (Q .no) fun y => Q (.ok (.d y) e)) (Q .no)) (Q .no) := by
  unfold wp cXf getN exvK
  cases h : e[i]? with
  | none => rfl
  | some x => cases x with
    | val d => cases d with
      | exv a d c fs =>
        unfold iteK oK
        dsimp only
        by_cases h : a = xp.a ∧ d = xp.d ∧ c = xp.c
        · rw [if_pos h, decide_eq_true h, if_pos rfl]
          cases al.lookup c with
          | none => rfl
          | some k => cases h2 : fs[k]? <;> simp [h2]
        · rw [if_neg h, decide_eq_false h, if_neg Bool.false_ne_true]
      | _ => rfl
    | _ => rfl
theorem Zgy {M} : wp (cIsx xp i M) e Q = getN e i (exvK (Q .no) fun a d c fs => iteK (decide (a = xp.a ∧ d = xp.d ∧ c = xp.c)) (oK (M.lookup c) (Q .no) fun b => Q (.ok (.d (.bl b)) e)) (Q .no)) (Q .no) := by
  unfold wp cIsx getN exvK
  cases h : e[i]? with
  | none => rfl
  | some x => cases x with
    | val d => cases d with
      | exv a d c fs =>
        unfold iteK oK
        dsimp only
        by_cases h : a = xp.a ∧ d = xp.d ∧ c = xp.c
        · rw [if_pos h, decide_eq_true h, if_pos rfl]
          cases M.lookup c <;> rfl
        · rw [if_neg h, decide_eq_false h, if_neg Bool.false_ne_true]
      | _ => rfl
    | _ => rfl
theorem Zgz {a : PySem.Addr} {d : Option PySem.Addr} {c : Nat} : decide (a = a ∧ d = d ∧ c = c) = true := decide_eq_true ⟨rfl, rfl, rfl⟩
end
section
variable {e : Env'} {Q : R → Prop} {fi : Env' → RI} {vs : List Nat} {h : D → Env' → Option Env'} {c : Env' → RT} {f : Env' → R}
def lcK (vs : List Nat) (h : D → Env' → Option Env') (c : Env' → RT) (f : Env' → R) (ds : List D) (e : Env') (Q : R → Prop) (_ : Pin (vs, h, c, f, ds, e, Q) := ⟨⟩) : Prop :=
  if canWipe e vs = true then (match lcL vs h c f ds [] (wipeE e vs) with | some (acc, e') => Q (.ok (.o (.l acc)) (backE e e' vs)) | none => Q .no) else Q .no
theorem Zha : wp (cLc fi vs h c f) e Q = wp fi e (iK Q fun ds e1 => lcK vs h c f ds e1 Q) := by
  unfold wp cLc lcK iK
  cases fi e with
  | ok ds e1 =>
    dsimp only
    by_cases hc : canWipe e1 vs = true
    · rw [if_pos hc, if_pos hc]
      cases lcL vs h c f ds [] (wipeE e1 vs) <;> rfl
    · rw [if_neg hc, if_neg hc]
  | _ => rfl
def lcE2 (vs : List Nat) (w : Env') (Q : Option D → Prop) : R → Prop
  | .ok r e3 => ∃ y, fz r = some y ∧ canWipe e3 vs = true ∧ wipeE e3 vs = w ∧ Q (some y)
  | _ => False
def lcE1 (vs : List Nat) (w : Env') (f : Env' → R) (Q : Option D → Prop) : RT → Prop
  | .ok true e2 => wp f e2 (lcE2 vs w Q)
  | .ok false e2 => canWipe e2 vs = true ∧ wipeE e2 vs = w ∧ Q none
  | _ => False
theorem Zhb {w d Q} : lcE2 vs w Q (.ok (.d d) e) = (canWipe e vs = true ∧ wipeE e vs = w ∧ Q (some d)) := by
  unfold lcE2 fz
  simp
theorem Zhc {w xs Q} : lcE2 vs w Q (.ok (.o (.l xs)) e) = (canWipe e vs = true ∧ wipeE e vs = w ∧ Q (some (.lst xs))) := by
  unfold lcE2 fz
  simp
def lcE1b (b : Bool) (vs : List Nat) (w : Env') (f : Env' → R) (Q : Option D → Prop) (e : Env') (_ : Pin (vs, w, f, Q, e) := ⟨⟩) : Prop := lcE1 vs w f Q (.ok b e)
theorem Zhd {w b Q} : lcE1 vs w f Q (.ok b e) = lcE1b b vs w f Q e := rfl
theorem Zhe {w Q} : lcE1b true vs w f Q e = wp f e (lcE2 vs w Q) := rfl
theorem Zhf {w Q} : lcE1b false vs w f Q e = (canWipe e vs = true ∧ wipeE e vs = w ∧ Q none) := rfl
def lcItem (vs : List Nat) (h : D → Env' → Option Env') (c : Env' → RT) (f : Env' → R) (d : D) (w : Env') (Q : Option D → Prop) : Prop := gK h d w (fun e1 => wp c e1 (lcE1 vs w f Q)) False
theorem Zhg {d w Q} : lcItem vs h c f d w Q = gK h d w (fun e1 => wp c e1 (lcE1 vs w f Q)) False := rfl
theorem lcL_pure {w : Env'} {α : Type} {g : α → D} {F : α → Option D} : ∀ {l : List α} {acc : List D}, acc.length + l.length ≤ 16777216 → (∀ x ∈ l, lcItem vs h c f (g x) w (fun y => y = F x)) → lcL vs h c f (l.map g) acc w = some (acc ++ l.filterMap F, w)
  | [], acc, _, _ => by simp [lcL]
  | x :: l, acc, hl, hi => by
    have h0 := hi x (List.mem_cons_self)
    rw [List.length_cons] at hl
    rw [List.map_cons]
    unfold lcL
    unfold lcItem gK oE at h0
    cases hh : h (g x) w with
    | none => rw [hh] at h0; exact h0.elim
    | some e1 =>
      rw [hh] at h0
      dsimp only at h0 ⊢
      unfold wp at h0
      cases hc : c e1 with
      | ex x e => rw [hc] at h0; exact h0.elim
      | no => rw [hc] at h0; exact h0.elim
      | ok b e2 =>
        rw [hc] at h0
        cases b with
        | false =>
          obtain ⟨k1, k2, k3⟩ := h0
          dsimp only
          rw [if_pos k1, k2, lcL_pure (by omega) (fun y hy => hi y (List.mem_cons_of_mem _ hy))]
          rw [List.filterMap_cons, ← k3]
        | true =>
          have h1 : lcE2 vs w (fun y => y = F x) (f e2) := h0
          dsimp only
          cases hf : f e2 with
          | ex x e => rw [hf] at h1; exact h1.elim
          | no => rw [hf] at h1; exact h1.elim
          | ok r e3 =>
            rw [hf] at h1
            obtain ⟨y, k0, k1, k2, k3⟩ := h1
            dsimp only
            rw [k0]
            dsimp only
            rw [if_pos ⟨by omega, k1⟩, k2, lcL_pure (by simp; omega) (fun y hy => hi y (List.mem_cons_of_mem _ hy))]
            rw [List.filterMap_cons, ← k3]
            simp
theorem backE_wipe {e : Env'} (h : canWipe e vs = true) : backE e (wipeE e vs) vs = e := by
  apply List.ext_getElem?
  intro j
  by_cases hj : j ∈ vs
  · have hb := (canWipe_at h hj).1
    rw [backE_in (by rw [wipeE_length]; exact hb) hj, List.getD_eq_getElem?_getD, List.getElem?_eq_getElem hb]
    rfl
  · rw [backE_out hj]
    clear h
    induction vs with
    | nil => rfl
    | cons v vs ih =>
      rw [List.mem_cons, not_or] at hj
      unfold wipeE
      rw [List.getElem?_set_ne (Ne.symm hj.1)]
      exact ih hj.2
theorem lc_fm {α : Type} {l : List α} {g : α → D} (F : α → Option D) (hw : canWipe e vs = true) (hl : l.length ≤ 16777216) (hi : ∀ x ∈ l, lcItem vs h c f (g x) (wipeE e vs) (fun y => y = F x)) (hq : Q (.ok (.o (.l (l.filterMap F))) e)) : lcK vs h c f (l.map g) e Q := by
  unfold lcK
  rw [if_pos hw, lcL_pure (acc := []) (by simpa using hl) hi]
  dsimp only
  rw [backE_wipe hw]
  exact hq
theorem lc_map {α : Type} {l : List α} {g : α → D} (F : α → D) (hw : canWipe e vs = true) (hl : l.length ≤ 16777216) (hi : ∀ x ∈ l, lcItem vs h c f (g x) (wipeE e vs) (fun y => y = some (F x))) (hq : Q (.ok (.o (.l (l.map F))) e)) : lcK vs h c f (l.map g) e Q := by
  refine lc_fm (fun x => some (F x)) hw hl hi ?_
  rw [show l.filterMap (fun x => some (F x)) = l.map F from by rw [List.filterMap_eq_map']]
  exact hq
theorem lc_filter {α : Type} {l : List α} {g : α → D} (p : α → Bool) (F : α → D) (hw : canWipe e vs = true) (hl : l.length ≤ 16777216) (hi : ∀ x ∈ l, lcItem vs h c f (g x) (wipeE e vs) (fun y => y = if p x then some (F x) else none)) (hq : Q (.ok (.o (.l ((l.filter p).map F))) e)) : lcK vs h c f (l.map g) e Q := by
  refine lc_fm (fun x => if p x then some (F x) else none) hw hl hi ?_
  have : ∀ l : List α, l.filterMap (fun x => if p x = true then some (F x) else none) = (l.filter p).map F := fun l => by
    induction l with
    | nil => rfl
    | cons x l ih =>
      rw [List.filterMap_cons, List.filter_cons]
      by_cases h : p x = true
      · simp [h, ih]
      · simp [h, ih]
  rw [this]
  exact hq
theorem lc_mapD {ds : List D} (F : D → D) (hw : canWipe e vs = true) (hl : ds.length ≤ 16777216) (hi : ∀ x ∈ ds, lcItem vs h c f x (wipeE e vs) (fun y => y = some (F x))) (hq : Q (.ok (.o (.l (ds.map F))) e)) : lcK vs h c f ds e Q := by
  have := lc_map (l := ds) (g := id) (Q := Q) (h := h) (c := c) (f := f) F hw hl hi hq
  rwa [List.map_id] at this
theorem lc_filterD {ds : List D} (p : D → Bool) (F : D → D) (hw : canWipe e vs = true) (hl : ds.length ≤ 16777216) (hi : ∀ x ∈ ds, lcItem vs h c f x (wipeE e vs) (fun y => y = if p x then some (F x) else none)) (hq : Q (.ok (.o (.l ((ds.filter p).map F))) e)) : lcK vs h c f ds e Q := by
  have := lc_filter (l := ds) (g := id) (Q := Q) (h := h) (c := c) (f := f) p F hw hl hi hq
  rwa [List.map_id] at this
theorem wipe_1 {i} : wipeE e [i] = e.set i .un := rfl
theorem wipe_2 {i j} : wipeE e [i, j] = (e.set j .un).set i .un := rfl
end
section
variable {e : Env'} {Q : R → Prop} {f : Env' → R}
def ngK (M : List (Nat × Fn)) (e : Env') (Q : R → Prop) : D → Prop
  | .int i => Q (.ok (.d (.int (-i))) e)
  | .obj c xs => oK (M.lookup c) (Q .no) fun φ => fK (φ [.val (.obj c xs)]) Q [.d (.obj c xs)] e
  | _ => Q .no
theorem Zcm {M i} : ngK M e Q (.int i) = Q (.ok (.d (.int (-i))) e) := rfl
theorem Zcn {M c xs} : ngK M e Q (.obj c xs) = oK (M.lookup c) (Q .no) fun φ => fK (φ [.val (.obj c xs)]) Q [.d (.obj c xs)] e := rfl
theorem Zcl {M} : wp (cNegM M f) e Q = wp f e (bK Q fun d e1 => ngK M e1 Q d) := by
  unfold wp cNegM
  refine (R_bind_wp (Q := Q)).trans ?_
  congr 1
  funext d e1
  cases d with
  | obj c xs =>
    unfold ngK oK
    dsimp only
    cases M.lookup c with
    | none => rfl
    | some φ =>
      refine (callR_wp (Q := Q)).trans ?_
      exact svsK_s (by rw [nod_d, nod_0]; trivial)
  | _ => rfl
end
theorem Ziw {b} : truthD (.bl b) = some b := rfl
theorem Zix : truthD .non = some false := rfl
theorem Ziy {i} : truthD (.int i) = some (i != 0) := rfl
theorem Ziz {xs} : truthD (.tup xs) = some (!xs.isEmpty) := rfl
theorem Zja {xs} : truthD (.lst xs) = some (!xs.isEmpty) := rfl
theorem truthD_s {l} (h : l.length ≤ 16777216) : truthD (.str l) = some (!l.isEmpty) := if_pos h
theorem Zje {α : Type} {a : α} {xs} : atI (a :: xs) 0 = some a := by unfold atI ixN; simp
theorem Zjf {α : Type} {a b : α} {xs} : atI (a :: b :: xs) 1 = some b := by
  have : (1 : Int) < ((xs.length + 1 + 1 : Nat) : Int) := by omega
  unfold atI ixN
  simp only [List.length_cons]
  rw [if_pos (by decide), if_pos this]
  rfl
theorem Zjg {α : Type} {a b c : α} {xs} : atI (a :: b :: c :: xs) 2 = some c := by
  have : (2 : Int) < ((xs.length + 1 + 1 + 1 : Nat) : Int) := by omega
  unfold atI ixN
  simp only [List.length_cons]
  rw [if_pos (by decide), if_pos this]
  rfl
theorem Zjh {α : Type} {xs : List α} {k : Nat} : atI xs (k : Int) = xs[k]? := by
  unfold atI ixN
  rw [if_pos (by omega)]
  by_cases h : k < xs.length
  · rw [if_pos (by omega)]; rfl
  · rw [if_neg (by omega)]
    simp only [Option.bind_none]
    rw [List.getElem?_eq_none (by omega)]
theorem atI_pos {α : Type} {xs : List α} {k : Int} (h : 0 ≤ k) : atI xs k = xs[k.toNat]? := by
  obtain ⟨n, rfl⟩ := Int.eq_ofNat_of_zero_le h
  exact Zjh
theorem Zjb {xs i} : ixD (.tup xs) (.int i) = atI xs i := rfl
theorem Zjc {xs i} : ixD (.lst xs) (.int i) = atI xs i := rfl
theorem Zjd {xs i} : ixD (.ro xs) (.int i) = atI xs i := rfl
theorem ixD_s {l i} (h : l.length ≤ 16777216) : ixD (.str l) (.int i) = (atI l i).map fun c => .str [c] := if_pos h
theorem Zji {xs} : bLen [.lst xs] = some (.d (.int xs.length)) := rfl
theorem Zjj {xs} : bLen [.tup xs] = some (.d (.int xs.length)) := rfl
theorem Zjk {xs} : bLen [.ro xs] = some (.d (.int xs.length)) := rfl
theorem bLen_s {l} (h : l.length ≤ 16777216) : bLen [.str l] = some (.d (.int l.length)) := if_pos h
theorem Zjl {i} : bInt [.int i] = some (.d (.int i)) := rfl
theorem Zjm {b} : bInt [.bl b] = some (.d (.int (if b then 1 else 0))) := rfl
theorem Zjn {i} : bAbs [.int i] = some (.d (.int i.natAbs)) := by
  show some (RV.d (.int (if i < 0 then -i else i))) = _
  congr 3
  split <;> omega
theorem Zjo {i j} : bGcd [.int i, .int j] = some (.d (.int (Int.gcd i j))) := rfl
theorem Zjp {xs} : bTup [.tup xs] = some (.d (.tup xs)) := rfl
theorem Zjq {xs} : bTup [.lst xs] = some (.d (.tup xs)) := rfl
theorem Zjr {xs} : bTup [.ro xs] = some (.d (.tup xs)) := rfl
theorem Zjs {xs} : bLst [.tup xs] = some (.o (.l xs)) := rfl
theorem Zjt {xs} : bLst [.lst xs] = some (.o (.l xs)) := rfl
theorem Zju {xs} : bLst [.ro xs] = some (.o (.l xs)) := rfl
theorem Zjv {xs} : itemsD (.tup xs) = some xs := rfl
theorem Zjw {xs} : itemsD (.lst xs) = some xs := rfl
theorem Zjx {xs} : itemsD (.ro xs) = some xs := rfl
theorem Zjy {l} : itemsD (.str l) = some (l.map fun c => .str [c]) := rfl
theorem Zki : kd .non = 0 := rfl
theorem Zkj {b} : kd (.bl b) = 1 := rfl
theorem Zkk {b} : kd (.int b) = 2 := rfl
theorem Zkl {b} : kd (.str b) = 3 := rfl
theorem Zkm {b} : kd (.tup b) = 4 := rfl
theorem Zkn {b} : kd (.lst b) = 5 := rfl
theorem Zko {b} : kd (.ro b) = 5 := rfl
theorem Zkp {c b} : kd (.obj c b) = 10 + c := rfl
section
variable {q : D → D → Option RV} {y : D}
theorem Zjz {a} : orP pEqX q (.int a) y = q (.int a) y := rfl
theorem Zka {a} : orP pEqX q (.bl a) y = q (.bl a) y := rfl
theorem Zkb {a} : orP pEqX q (.str a) y = q (.str a) y := rfl
theorem Zkc : orP pEqX q .non y = q .non y := rfl
theorem Zkd {a b} : orP pEqX q (.tup a) (.str b) = some (.d (.bl false)) := rfl
theorem Zke {a b} : orP pEqX q (.lst a) (.str b) = some (.d (.bl false)) := rfl
theorem Zkf {a b} : orP pEqX q (.ro a) (.str b) = some (.d (.bl false)) := rfl
theorem Zkg {a b} : orP pEqX q (.tup a) (.tup b) = q (.tup a) (.tup b) := rfl
theorem Zkh {a b} : orP pEqX q (.lst a) (.lst b) = q (.lst a) (.lst b) := rfl
end
theorem Zks : pIsN .non .non = some (.d (.bl true)) := rfl
theorem Zkt {a} : pIsN (.int a) .non = some (.d (.bl false)) := rfl
theorem Zkv {a} : pIsN (.bl a) .non = some (.d (.bl false)) := rfl
theorem Zku {a} : pIsN (.str a) .non = some (.d (.bl false)) := rfl
theorem Zkw {a} : pIsN (.tup a) .non = some (.d (.bl false)) := rfl
theorem Zkx {a} : pIsN (.lst a) .non = some (.d (.bl false)) := rfl
theorem Zky {c a} : pIsN (.obj c a) .non = some (.d (.bl false)) := rfl
theorem Zkz : pNotN .non .non = some (.d (.bl false)) := rfl
theorem Zla {a} : pNotN (.int a) .non = some (.d (.bl true)) := rfl
theorem Zlc {a} : pNotN (.bl a) .non = some (.d (.bl true)) := rfl
theorem Zlb {a} : pNotN (.str a) .non = some (.d (.bl true)) := rfl
theorem Zld {a} : pNotN (.tup a) .non = some (.d (.bl true)) := rfl
theorem Zle {a} : pNotN (.lst a) .non = some (.d (.bl true)) := rfl
theorem Zlf {c a} : pNotN (.obj c a) .non = some (.d (.bl true)) := rfl
theorem Zkq {β : Type} {k : Nat} {v : β} {l} : List.lookup k ((k, v) :: l) = some v := List.lookup_cons_self
theorem Zkr {β : Type} {k j : Nat} {v : β} {l} (h : (k == j) = false) : List.lookup k ((j, v) :: l) = List.lookup k l := by rw [List.lookup_cons, h]
theorem Zlg (a b : List Nat) : pEq false (.str a) (.str b) = some (.d (.bl (a == b))) := rfl
theorem Zlh (a b : List Nat) : pEq true (.str a) (.str b) = some (.d (.bl (!(a == b)))) := rfl
theorem Zli (a b : Bool) : pEq false (.bl a) (.bl b) = some (.d (.bl (a == b))) := rfl
theorem Zlj (a b : Bool) : pEq true (.bl a) (.bl b) = some (.d (.bl (!(a == b)))) := rfl
theorem Zlk (b : List Nat) : pEq false .non (.str b) = some (.d (.bl false)) := rfl
theorem Zll (a) (b : List Nat) : pEq false (.int a) (.str b) = some (.d (.bl false)) := rfl
theorem Zlm (a) (b : List Nat) : pEq false (.bl a) (.str b) = some (.d (.bl false)) := rfl
theorem Zln (a) (b : List Nat) : pEq false (.str b) (.int a) = some (.d (.bl false)) := rfl
theorem addS {a b : List Nat} (h : a.length + b.length ≤ 16777216) : pAdd (.str a) (.str b) = some (.d (.str (a ++ b))) := by
  have : lenOk a b = true := decide_eq_true h
  show orP pAddI (orP pAddS _) (.str a) (.str b) = _
  unfold orP pAddI pAddS pI pS
  dsimp only
  rw [if_pos this]
theorem addL {a b : List D} (h : a.length + b.length ≤ 16777216) : pAdd (.lst a) (.lst b) = some (.o (.l (a ++ b))) := by
  show orP pAddI (orP pAddS (orP pAddT pAddL)) (.lst a) (.lst b) = _
  unfold orP pAddI pAddS pI pS pAddT pAddL
  dsimp only
  rw [if_pos (show decide (a.length + b.length ≤ SZ) = true from decide_eq_true h)]
theorem addT {a b : List D} (h0 : a ≠ []) (h : a.length + b.length ≤ 16777216) : pAdd (.tup a) (.tup b) = some (.d (.tup (a ++ b))) := by
  show orP pAddI (orP pAddS (orP pAddT pAddL)) (.tup a) (.tup b) = _
  unfold orP pAddI pAddS pI pS pAddT pAddL
  dsimp only
  have e : (!a.isEmpty && decide (a.length + b.length ≤ SZ)) = true := by
    rw [show decide (a.length + b.length ≤ SZ) = true from decide_eq_true h]
    cases a with
    | nil => exact (h0 rfl).elim
    | cons _ _ => rfl
  rw [if_pos e]
theorem mulS {a : List Nat} {n : Int} (h0 : 0 ≤ n) (h1 : n ≤ 16777216) (h : a.length * n.toNat ≤ 16777216) : pMul (.str a) (.int n) = some (.d (.str (List.replicate n.toNat a).flatten)) := by
  show orP pMulI (orP pMulS pMulL) (.str a) (.int n) = _
  unfold orP pMulI pMulS pI
  dsimp only
  rw [if_pos (by rw [Bool.and_eq_true, Bool.and_eq_true]; exact ⟨⟨decide_eq_true h0, decide_eq_true h⟩, decide_eq_true h1⟩)]
theorem eq_P {neg : Bool} {x y : D} (h0 : scD x y = false) (h1 : plain 60 x = true) (h2 : plain 60 y = true) (h3 : noMix x y = true) : pEq neg x y = some (.d (.bl (if neg then !eqD x y else eqD x y))) := by
  show orP (pEqF neg) (pEqP neg) x y = _
  unfold orP pEqF pEqP
  rw [if_neg (by rw [h0]; decide), h1, h2, h3]
  rfl
section
variable {e : Env'} {Q : R → Prop} {f g : Env' → R} {lo hi : Env' → RO}
def uK (Q : R → Prop) (k : Option Int → Env' → Prop) : RO → Prop
  | .ok b e => k b e
  | .ex x e => Q (.ex x e)
  | .no => Q .no
theorem Zhy {k b} : uK Q k (.ok b e) = k b e := rfl
theorem Zhz {QO : RO → Prop} : wp o0 e QO = QO (.ok none e) := rfl
def oiK (QO : RO → Prop) : R → Prop := fun r => QO (match r with | .ok (.d (.int i)) e => .ok (some i) e | .ex x e => .ex x e | _ => .no)
theorem Zib {QO : RO → Prop} {i} : oiK QO (.ok (.d (.int i)) e) = QO (.ok (some i) e) := rfl
theorem Zia {QO : RO → Prop} : wp (oI f) e QO = wp f e (oiK QO) := by
  unfold wp oI oiK
  rfl
theorem RO_bind_wp {r : RO} {k : Option Int → Env' → R} : Q (r.bind k) = uK Q (fun b e => Q (k b e)) r := by cases r <;> rfl
theorem Zic : wp (cSl f lo hi) e Q = wp f e (bK Q fun d e0 => wp lo e0 (uK Q fun l e1 => wp hi e1 (uK Q fun u e2 => oK (slD d l u) (Q .no) fun r => Q (.ok r e2)))) := by
  unfold wp cSl
  refine (R_bind_wp (Q := Q)).trans ?_
  congr 1
  funext d e0
  refine (RO_bind_wp (Q := Q)).trans ?_
  congr 1
  funext l e1
  refine (RO_bind_wp (Q := Q)).trans ?_
  congr 1
  funext u e2
  unfold oK
  cases slD d l u <;> rfl
theorem slD_s {l lo hi} (h : l.length ≤ 16777216) : slD (.str l) lo hi = some (.d (.str (cut l lo hi))) := if_pos h
theorem Zlu {l lo hi} : slD (.lst l) lo hi = some (.o (.l (cut l lo hi))) := rfl
theorem Zlv {l lo hi} : slD (.ro l) lo hi = some (.o (.l (cut l lo hi))) := rfl
theorem Zlw {α : Type} {l : List α} {k : Nat} : cut l none (some (k : Int)) = l.take k := by
  unfold cut
  rw [HT.sIx_nat]
  show List.take (min k l.length - 0) (l.drop 0) = _
  rw [List.drop_zero, Nat.sub_zero]
  by_cases h : k ≤ l.length
  · rw [Nat.min_eq_left h]
  · rw [Nat.min_eq_right (by omega), List.take_length, List.take_of_length_le (by omega)]
theorem Zlx {α : Type} {l : List α} {k : Nat} : cut l (some (k : Int)) none = l.drop k := by
  unfold cut
  rw [HT.sIx_nat]
  show List.take (l.length - min k l.length) (l.drop (min k l.length)) = _
  by_cases h : k ≤ l.length
  · rw [Nat.min_eq_left h, List.take_of_length_le (by simp)]
  · rw [Nat.min_eq_right (by omega), List.drop_eq_nil_of_le (by omega)]; simp; omega
theorem Zly {α : Type} {l : List α} {j k : Nat} : cut l (some (j : Int)) (some (k : Int)) = (l.take k).drop j := by
  unfold cut
  rw [HT.sIx_nat, HT.sIx_nat, List.drop_take]
  by_cases h1 : j ≤ l.length
  · rw [Nat.min_eq_left h1]
    by_cases h2 : k ≤ l.length
    · rw [Nat.min_eq_left h2]
    · rw [Nat.min_eq_right (by omega), List.take_of_length_le (by simp), List.take_of_length_le (by simp; omega)]
  · rw [Nat.min_eq_right (by omega : l.length ≤ j), List.drop_eq_nil_of_le (Nat.le_refl _), List.drop_eq_nil_of_le (by omega : l.length ≤ j)]
    simp
end
section
variable {as : List SV} {e : Env'} {r : RV}
theorem Zlz {i : Nat} : outsA i [] e = [] := by cases e <;> rfl
theorem Zma {i : Nat} {d : D} {x : SV} : outsA i (.val d :: as) (x :: e) = outsA (i + 1) as e := by cases x <;> rfl
theorem Zmb {i : Nat} {b c : Bool} {o o' : OB} : outsA i (.own b o :: as) (.own c o' :: e) = (i, o') :: outsA (i + 1) as e := rfl
theorem iteK_by {b : Bool} {A B : Prop} (h1 : b = true → A) (h2 : b = false → B) : iteK b A B := by
  cases b with
  | true => exact h1 rfl
  | false => exact h2 rfl
theorem iteK_dec {p : Prop} [Decidable p] {A B : Prop} (h1 : p → A) (h2 : ¬ p → B) : iteK (decide p) A B := by
  by_cases h : p
  · rw [decide_eq_true h]; exact h1 h
  · rw [decide_eq_false h]; exact h2 h
theorem Zid : endF as (.rt r e) = .ok r (outsA 0 as e) := rfl
theorem Zie : endF as (.nx e) = .ok (.d .non) (outsA 0 as e) := rfl
theorem Zif {x} : endF as (.ex x e) = .ex x (outsA 0 as e) := rfl
theorem fn_at {g : Env' → RS} {n m : Nat} {e : Env'} {r : RF} (hl : as.length = m) (he : startE as n = e) (h : wp g e (fun rs => endF as rs = r)) : fnF g n m as = r := by
  subst he
  exact (fnF_run hl).trans h
theorem fn_atP {g : Env' → RS} {n m : Nat} {e : Env'} {P : RF → Prop} (hl : as.length = m) (he : startE as n = e) (h : wp g e (fun rs => P (endF as rs))) : P (fnF g n m as) := by
  subst he
  rw [fnF_run hl]
  exact h
end
section
variable {e : Env'} {Q : RS → Prop} {t : Env' → RS} {h : D → Env' → Option Env'}
theorem for_r0 {n : Nat} (P : Nat → Env' → Prop) (h0 : P 0 e) (st : ∀ i e, i < n → P i e → gK h (.int (i : Int)) e (fun e1 => wp t e1 (lpK (fun e2 => P (i + 1) e2) Q)) (Q .no)) (fin : ∀ e, P n e → Q (.nx e)) : wp (forL h t (rngD 0 (n : Int))) e Q := by
  rw [rngD_0]
  exact for_n P h0 st fin
theorem iteK_sm {j : Int} {A B : Prop} (hj : smI j = true) (h : A) : iteK (smI j) A B := by rw [hj]; exact h
theorem iteK_sm2 {i j : Int} {A B : Prop} (hi : smI i = true) (hj : smI j = true) (h : A) : iteK (smI i && smI j) A B := by rw [hi, hj]; exact h
theorem smI_le {j : Int} (h1 : -1000000000 ≤ j) (h2 : j ≤ 1000000000) : smI j = true := by
  unfold smI
  rw [Bool.and_eq_true]
  exact ⟨decide_eq_true (by omega), decide_eq_true (by omega)⟩
theorem rngD_len {lo hi : Int} : (rngD lo hi).length = (hi - lo).toNat := by unfold rngD; simp
theorem rngD_map {lo hi : Int} : rngD lo hi = (List.range (hi - lo).toNat).map fun (i : Nat) => .int (lo + i) := rfl
end
end L2.S

set_option Elab.async false
set_option linter.all false
set_option maxRecDepth 100000
set_option maxHeartbeats 4000000
namespace L2.S
open PySem PySem.Spec PyProof.Rows TL RZ
section
variable {X : Cx} {T : Tb} {W : WX} {a b c e o : Expr} {es : List Expr} {f g : Env' → R} {fa : Env' → RA} {pos p apos cpos : Pos}
def boolsD : List D → Option (List Bool)
  | [] => some []
  | .bl b :: r => (boolsD r).map (b :: ·)
  | _ :: _ => none
def intsD : List D → Option (List Int)
  | [] => some []
  | .int b :: r => (intsD r).map (b :: ·)
  | _ :: _ => none
def strsD : List D → Option (List (List Nat))
  | [] => some []
  | .str b :: r => (strsD r).map (b :: ·)
  | _ :: _ => none
theorem boolsD_reps {Z : Hp} : ∀ {vs : List V} {ds : List D} {bs : List Bool}, Reps T Z vs ds → boolsD ds = some bs → vs = bs.map V.bl
  | _, _, _, .nil, h => by cases h; rfl
  | _, .bl b :: r, bs, .cons h rs, e => by
    have e' : (boolsD r).map (b :: ·) = some bs := e
    cases q : boolsD r with
    | none => rw [q] at e'; cases e'
    | some w =>
      rw [q] at e'
      cases e'
      cases h
      rw [boolsD_reps rs q]
      rfl
  | _, .non :: _, _, .cons _ _, e => by cases e
  | _, .int _ :: _, _, .cons _ _, e => by cases e
  | _, .str _ :: _, _, .cons _ _, e => by cases e
  | _, .tup _ :: _, _, .cons _ _, e => by cases e
  | _, .lst _ :: _, _, .cons _ _, e => by cases e
  | _, .ro _ :: _, _, .cons _ _, e => by cases e
  | _, .obj _ _ :: _, _, .cons _ _, e => by cases e
  | _, .fn _ :: _, _, .cons _ _, e => by cases e
  | _, .ty _ :: _, _, .cons _ _, e => by cases e
  | _, .cls _ :: _, _, .cons _ _, e => by cases e
  | _, .exv _ _ _ _ :: _, _, .cons _ _, e => by cases e
theorem intsD_reps {Z : Hp} : ∀ {vs : List V} {ds : List D} {bs : List Int}, Reps T Z vs ds → intsD ds = some bs → vs = bs.map V.int
  | _, _, _, .nil, h => by cases h; rfl
  | _, .int b :: r, bs, .cons h rs, e => by
    have e' : (intsD r).map (b :: ·) = some bs := e
    cases q : intsD r with
    | none => rw [q] at e'; cases e'
    | some w =>
      rw [q] at e'
      cases e'
      cases h
      rw [intsD_reps rs q]
      rfl
  | _, .non :: _, _, .cons _ _, e => by cases e
  | _, .bl _ :: _, _, .cons _ _, e => by cases e
  | _, .str _ :: _, _, .cons _ _, e => by cases e
  | _, .tup _ :: _, _, .cons _ _, e => by cases e
  | _, .lst _ :: _, _, .cons _ _, e => by cases e
  | _, .ro _ :: _, _, .cons _ _, e => by cases e
  | _, .obj _ _ :: _, _, .cons _ _, e => by cases e
  | _, .fn _ :: _, _, .cons _ _, e => by cases e
  | _, .ty _ :: _, _, .cons _ _, e => by cases e
  | _, .cls _ :: _, _, .cons _ _, e => by cases e
  | _, .exv _ _ _ _ :: _, _, .cons _ _, e => by cases e
def mkS (l : List Nat) : Str := ⟨l.toArray⟩
theorem strsD_reps {Z : Hp} : ∀ {vs : List V} {ds : List D} {bs : List (List Nat)}, Reps T Z vs ds → strsD ds = some bs → vs = (bs.map mkS).map V.str
  | _, _, _, .nil, h => by cases h; rfl
  | _, .str b :: r, bs, .cons h rs, e => by
    have e' : (strsD r).map (b :: ·) = some bs := e
    cases q : strsD r with
    | none => rw [q] at e'; cases e'
    | some w =>
      rw [q] at e'
      cases e'
      cases h
      rw [strsD_reps rs q]
      rfl
  | _, .non :: _, _, .cons _ _, e => by cases e
  | _, .bl _ :: _, _, .cons _ _, e => by cases e
  | _, .int _ :: _, _, .cons _ _, e => by cases e
  | _, .tup _ :: _, _, .cons _ _, e => by cases e
  | _, .lst _ :: _, _, .cons _ _, e => by cases e
  | _, .ro _ :: _, _, .cons _ _, e => by cases e
  | _, .obj _ _ :: _, _, .cons _ _, e => by cases e
  | _, .fn _ :: _, _, .cons _ _, e => by cases e
  | _, .ty _ :: _, _, .cons _ _, e => by cases e
  | _, .cls _ :: _, _, .cons _ _, e => by cases e
  | _, .exv _ _ _ _ :: _, _, .cons _ _, e => by cases e
def bAll : List D → Option RV
  | [.lst xs] => (boolsD xs).map fun bs => .d (.bl (bs.all id))
  | _ => none
def bAny : List D → Option RV
  | [.lst xs] => (boolsD xs).map fun bs => .d (.bl (bs.any id))
  | _ => none
def bSum : List D → Option RV
  | [.lst xs] => (intsD xs).map fun bs => .d (.int bs.sum)
  | _ => none
theorem b_all (hc : X.calm = true) : BI X T (.builtin "all") bAll := BI.of (cr_all hc) fun G B Z H σ env xs ds w Q E rs e c => by
  unfold bAll at e
  split at e
  · rename_i ys
    cases hb : boolsD ys with
    | none => rw [hb] at e; cases e
    | some bs =>
      rw [hb] at e
      cases e
      obtain ⟨x, rfl, r⟩ := rs.one
      cases r with
      | lst hq rr =>
        rw [boolsD_reps rr hb] at hq
        exact ⟨_, bs, rfl, SqL.of (E.sub _ _ hq), c _ H Z (Same.refl _) E (.bl _)⟩
  · cases e
theorem b_any (hc : X.calm = true) : BI X T (.builtin "any") bAny := BI.of (cr_any hc) fun G B Z H σ env xs ds w Q E rs e c => by
  unfold bAny at e
  split at e
  · rename_i ys
    cases hb : boolsD ys with
    | none => rw [hb] at e; cases e
    | some bs =>
      rw [hb] at e
      cases e
      obtain ⟨x, rfl, r⟩ := rs.one
      cases r with
      | lst hq rr =>
        rw [boolsD_reps rr hb] at hq
        exact ⟨_, bs, rfl, SqL.of (E.sub _ _ hq), c _ H Z (Same.refl _) E (.bl _)⟩
  · cases e
theorem b_sum (hc : X.calm = true) : BI X T (.builtin "sum") bSum := BI.of (cr_sum hc) fun G B Z H σ env xs ds w Q E rs e c => by
  unfold bSum at e
  split at e
  · rename_i ys
    cases hb : intsD ys with
    | none => rw [hb] at e; cases e
    | some bs =>
      rw [hb] at e
      cases e
      obtain ⟨x, rfl, r⟩ := rs.one
      cases r with
      | lst hq rr =>
        rw [intsD_reps rr hb] at hq
        exact ⟨_, bs, rfl, SqL.of (E.sub _ _ hq), c _ H Z (Same.refl _) E (.int _)⟩
  · cases e
def bMin2 : List D → Option RV
  | [.int i, .int j] => some (.d (.int (min i j)))
  | _ => none
def bMax2 : List D → Option RV
  | [.int i, .int j] => some (.d (.int (max i j)))
  | _ => none
theorem b_min2 (hc : X.calm = true) : BI X T (.builtin "min") bMin2 := BI.of (call_min2 hc) fun G B Z H σ env xs ds w Q E rs e c => by
  unfold bMin2 at e
  split at e
  · cases e
    obtain ⟨x, y, rfl, r, r2⟩ := rs.two
    cases r; cases r2
    rename_i i j
    refine ⟨i, j, rfl, c _ H Z (Same.refl _) E ?_⟩
    have e : (if j < i then j else i) = min i j := by rw [Int.min_def]; split <;> split <;> omega
    rw [e]
    exact .int _
  · cases e
theorem b_max2 (hc : X.calm = true) : BI X T (.builtin "max") bMax2 := BI.of (call_max2 hc) fun G B Z H σ env xs ds w Q E rs e c => by
  unfold bMax2 at e
  split at e
  · cases e
    obtain ⟨x, y, rfl, r, r2⟩ := rs.two
    cases r; cases r2
    rename_i i j
    refine ⟨i, j, rfl, c _ H Z (Same.refl _) E ?_⟩
    have e : (if j > i then j else i) = max i j := by rw [Int.max_def]; split <;> split <;> omega
    rw [e]
    exact .int _
  · cases e
def bDm : List D → Option RV
  | [.int i, .int j] => if decide (0 < j) && decide (j.natAbs.log2 < 9000) then some (.d (.tup [.int (i / j), .int (i % j)])) else none
  | _ => none
def cMs (q : List Nat → List D → Option RV) (f : Env' → R) (fa : Env' → RA) : Env' → R := fun env => (f env).bind fun d e => match d with
  | .str l => (fa e).bind fun as e1 => (match avD as with | some ds => (match q l ds with | some r => .ok r e1 | none => .no) | none => .no)
  | _ => .no
def MsOk (T : Tb) (r : V → List V → Hp → VK → Prop) (q : List Nat → List D → Option RV) : Prop :=
  ∀ (G : Gd) (B : List (Nat × Addr)) (Z H : Hp) (σ : St) (env : Env') (l : List Nat) (xs : List V) (ds : List D) (w : RV) (Q : VK), EOk T G B Z H σ env → Reps T Z xs ds → q l ds = some w →
      (∀ v H' Z', Same Z Z' → EOk T G B Z' H' σ env → RRep T G Z' H' σ env v w → Q v H') → r (.str (mkS l)) xs H Q
theorem se_ms {m : Str} {id : String} {r : V → List V → Hp → VK → Prop} {q : List Nat → List D → Option RV} (slot : Slot "str" m id) (hty : typeOf (.builtin id) = pure (.type "method_descriptor")) (hm : MtR X id r) (hq : MsOk T r q) (ho : SE X T W o f) (ha : SA X T W (e :: es) fa)
    (hbase : attributeBase o m X.env (eval o X.env) = eval o X.env := by rfl)
    (hfew : ((backTo cpos (starEach (e :: es) X.env)).all (fun x => !x.1) && (backToKw cpos (keywordEach [] X.env)).all (fun x => x.1.isSome)
      && decide ((e :: es).length + ([] : List Keyword).length + (if ([] : List Keyword).isEmpty then 0 else 1) < 30)) = true := by rfl)
    (hline : (apos.endLine == cpos.line) = true := by rfl) (hs : starEach (e :: es) X.env = (false, eval e X.env) :: starEach es X.env := by rfl) (hplain : (backTo cpos (starEach es X.env)).any (·.1) = false := by rfl) :
    SE X T W (.Call (.Attribute o m apos) (e :: es) [] cpos) (cMs q f fa) := by
  refine PE.weak (pe_bm PySem.F.plainAttrs_str slot hty hm ho ha hbase hfew hline hs hplain) fun σ H Q ⟨G, B, Z, env, E, h⟩ => ?_
  refine useR E h fun x H1 Z1 e1 dx s1 E1 r1 h1 => ?_
  cases r1 with
  | str l =>
    dsimp only at h1
    refine ⟨rfl, useAR E1 h1 fun vs H2 Z2 e2 as s2 E2 r2 h2 => ?_⟩
    cases hd : avD as with
    | none => rw [hd] at h2; exact h2.elim
    | some ds =>
      rw [hd] at h2
      dsimp only at h2
      cases hw : q l ds with
      | none => rw [hw] at h2; exact h2.elim
      | some w =>
        rw [hw] at h2
        exact hq G B Z2 H2 σ e2 l vs ds w Q E2 (r2.reps hd) hw h2
  | _ => exact h1.elim
def qJoin : List Nat → List D → Option RV := fun l ds => match ds with
  | [.lst xs] => (match strsD xs with | some ys => if (ys.map (·.length)).sum + ys.length * l.length ≤ 16777216 then some (.d (.str (joinL l ys))) else none | none => none)
  | _ => none
theorem mkS_tl (l : List Nat) : mkS (tl (mkS l)) = mkS l := rfl
theorem mkS_of {x : Str} {l : List Nat} (h : tl x = l) : x = mkS l := by
  subst h
  obtain ⟨cps⟩ := x
  rfl
theorem ms_join : MsOk T (fun x xs H Q => ∃ a p, ∃ ys : List Str, x = .str a ∧ xs = [.ref p] ∧ (SqL X.K H p (ys.map V.str) ∨ SqT X.K H p (ys.map V.str)) ∧ (ys.map (·.length)).sum + ys.length * a.length ≤ 16777216 ∧ Q (.str (Txt.join a ys)) H) qJoin := by
  intro G B Z H σ env l xs ds w Q E rs e c
  unfold qJoin at e
  split at e
  · rename_i zs
    cases hb : strsD zs with
    | none => rw [hb] at e; cases e
    | some ys =>
      rw [hb] at e
      dsimp only at e
      split at e
      · rename_i hl
        cases e
        obtain ⟨x, rfl, r⟩ := rs.one
        cases r with
        | lst hq rr =>
          rw [strsD_reps rr hb] at hq
          have ml : ((ys.map mkS).map (·.length)) = ys.map (·.length) := by
            rw [List.map_map]
            exact List.map_congr_left fun y _ => by show (y.toArray).size = _; simp
          refine ⟨mkS l, _, ys.map mkS, rfl, rfl, .inl (SqL.of (E.sub _ _ hq)), ?_, ?_⟩
          · rw [ml, List.length_map]
            show _ + _ * (l.toArray).size ≤ _
            simpa using hl
          · have : Txt.join (mkS l) (ys.map mkS) = mkS (joinL l ys) := mkS_of (by
              rw [join_eq, tl_join, List.map_map]
              congr 1
              rw [show (tl ∘ mkS) = id from rfl, List.map_id])
            rw [this]
            exact c _ H Z (Same.refl _) E (.str _)
      · cases e
  · cases e
def zipD (xs ys : List D) : List D := (xs.zip ys).map fun q => .tup [q.1, q.2]
def enuD (xs : List D) : List D := xs.zipIdx.map fun q => .tup [.int (q.2 : Int), q.1]
theorem walk_pair {Z Z' H : Hp} {t : Addr} {v w : V} {x y : D} (s : Same Z Z') (s' : Same Z' H) (ht : H t = none) (r1 : Rep T Z v x) (r2 : Rep T Z w y) :
    ∃ Z'', Same Z' Z'' ∧ Rep T Z'' (.ref t) (.tup [x, y]) ∧ ((upd H t (.tup [v, w]) = H ∧ Z'' = Z') ∨ ∃ t' o, H t' = none ∧ upd H t (.tup [v, w]) = upd H t' o ∧ Z'' = upd Z' t' o) := by
  have sz : Same Z' (upd Z' t (.tup [v, w])) := same_upd (s'.free ht)
  exact ⟨upd Z' t (.tup [v, w]), sz, .tup (SqT.of upd_same) (.cons (r1.mono (s.trans sz)) (.cons (r2.mono (s.trans sz)) .nil)), .inr ⟨t, _, ht, rfl, rfl⟩⟩
theorem walk_zipL {Z : Hp} {p1 p2 : Addr} {vs ws : List V} {xs ys : List D} (hT : X.K = T.K) (h1 : SqL T.K Z p1 vs) (r1 : Reps T Z vs xs) (h2 : SqL T.K Z p2 ws) (r2 : Reps T Z ws ys) : Walk T Z (Itz X.K p1 p2) (zipD xs ys) where
  go := fun i d Z' H e s s' => by
    unfold zipD at e
    rw [List.getElem?_map] at e
    cases q : (xs.zip ys)[i]? with
    | none => rw [q] at e; cases e
    | some z =>
      rw [q] at e
      cases e
      obtain ⟨e1, e2⟩ := List.getElem?_zip_eq_some.mp q
      obtain ⟨v, ev, rv⟩ := r1.get e1
      obtain ⟨w, ew, rw'⟩ := r2.get e2
      have g1 : SqL X.K H p1 vs := by rw [hT]; exact (s.trans s').seq h1
      have g2 : SqL X.K H p2 ws := by rw [hT]; exact (s.trans s').seq h2
      refine ⟨⟨vs, ws, v, w, g1, g2, ev, ew⟩, fun u H' y => ?_⟩
      obtain ⟨t, v', w', rfl, ht, rfl, k1, k2⟩ := y
      have := k1 vs g1
      rw [ev] at this
      cases this
      have := k2 ws g2
      rw [ew] at this
      cases this
      exact walk_pair s s' ht rv rw'
  stop := fun Z' H s s' => by
    refine ⟨vs, ws, by rw [hT]; exact (s.trans s').seq h1, by rw [hT]; exact (s.trans s').seq h2, ?_⟩
    unfold zipD
    rw [List.length_map, List.length_zip, r1.length, r2.length]
    omega
theorem walk_zipT {Z : Hp} {p1 p2 : Addr} {vs ws : List V} {xs ys : List D} (hT : X.K = T.K) (h1 : SqT T.K Z p1 vs) (r1 : Reps T Z vs xs) (h2 : SqT T.K Z p2 ws) (r2 : Reps T Z ws ys) : Walk T Z (ItzT X.K p1 p2) (zipD xs ys) where
  go := fun i d Z' H e s s' => by
    unfold zipD at e
    rw [List.getElem?_map] at e
    cases q : (xs.zip ys)[i]? with
    | none => rw [q] at e; cases e
    | some z =>
      rw [q] at e
      cases e
      obtain ⟨e1, e2⟩ := List.getElem?_zip_eq_some.mp q
      obtain ⟨v, ev, rv⟩ := r1.get e1
      obtain ⟨w, ew, rw'⟩ := r2.get e2
      have g1 : SqT X.K H p1 vs := by rw [hT]; exact sqt_mono (s.trans s') h1
      have g2 : SqT X.K H p2 ws := by rw [hT]; exact sqt_mono (s.trans s') h2
      refine ⟨⟨vs, ws, v, w, g1, g2, ev, ew⟩, fun u H' y => ?_⟩
      obtain ⟨t, v', w', rfl, ht, rfl, k1, k2⟩ := y
      have := k1 vs g1
      rw [ev] at this
      cases this
      have := k2 ws g2
      rw [ew] at this
      cases this
      exact walk_pair s s' ht rv rw'
  stop := fun Z' H s s' => by
    refine ⟨vs, ws, by rw [hT]; exact sqt_mono (s.trans s') h1, by rw [hT]; exact sqt_mono (s.trans s') h2, ?_⟩
    unfold zipD
    rw [List.length_map, List.length_zip, r1.length, r2.length]
    omega
theorem walk_enu {Z : Hp} {p1 : Addr} {vs : List V} {xs : List D} (hT : X.K = T.K) (h1 : SqL T.K Z p1 vs) (r1 : Reps T Z vs xs) : Walk T Z (Ite X.K p1) (enuD xs) where
  go := fun i d Z' H e s s' => by
    unfold enuD at e
    rw [List.getElem?_map, List.getElem?_zipIdx] at e
    cases q : xs[i]? with
    | none => rw [q] at e; cases e
    | some x =>
      rw [q] at e
      cases e
      obtain ⟨v, ev, rv⟩ := r1.get q
      have g1 : SqL X.K H p1 vs := by rw [hT]; exact (s.trans s').seq h1
      refine ⟨⟨vs, v, g1, ev⟩, fun u H' y => ?_⟩
      obtain ⟨t, v', rfl, ht, rfl, k1⟩ := y
      have := k1 vs g1
      rw [ev] at this
      cases this
      have := walk_pair (v := .int (i : Nat)) (x := .int (i : Nat)) s s' ht (.int _) rv
      simpa using this
  stop := fun Z' H s s' => by
    refine ⟨vs, by rw [hT]; exact (s.trans s').seq h1, ?_⟩
    unfold enuD
    rw [List.length_map, List.length_zipIdx, r1.length]
    exact Nat.le_refl _
def iZp (fa : Env' → RA) : Env' → RI := fun env => (fa env).bindI fun as e => match as with
  | [.d (.tup xs), .d (.tup ys)] => .ok (zipD xs ys) e
  | [.d (.lst xs), .d (.lst ys)] => .ok (zipD xs ys) e
  | _ => .no
def iEn (fa : Env' → RA) : Env' → RI := fun env => (fa env).bindI fun as e => match as with
  | [.d (.lst xs)] => .ok (enuD xs) e
  | _ => .no
theorem si_zip {e2 : Expr} {elts : List Expr} {kk : Nat} {tpos : Pos} (hT : X.K = T.K) (hm : X.mg "zip" = none) (ha : SA X T W [e, e2] fa) (hg : Gl X "zip" := by rfl)
    (hs : starEach [e, e2] X.env = (false, eval e X.env) :: starEach [e2] X.env := by rfl) (hpl : (backTo pos (starEach [e2] X.env)).any (·.1) = false := by rfl) : SI X T W (.Tuple elts kk tpos) (.Call (.Name "zip" p) [e, e2] [] pos) (iZp fa) := by
  refine PI.weak (pi_zipA hg hm ha hs hpl) fun σ H Rr ⟨G, B, Z, env, E, q⟩ => ?_
  refine useAI E q fun vs H1 Z1 e as s E1 r h1 h2 h3 => ?_
  split at h2
  · rename_i xs ys
    match vs, r with
    | [v1, v2], ⟨k1, k2, _⟩ =>
      cases k1 with
      | tup hq1 rr1 =>
        cases k2 with
        | tup hq2 rr2 =>
          exact ⟨_, _, _, _, rfl, .inr ⟨by rw [hT]; exact sqt_mono E1.sub hq1, by rw [hT]; exact sqt_mono E1.sub hq2, h1 _ _ rfl H1 Z1 (Same.refl _) E1 _ (walk_zipT hT hq1 rr1 hq2 rr2)⟩⟩
  · rename_i xs ys
    match vs, r with
    | [v1, v2], ⟨k1, k2, _⟩ =>
      cases k1 with
      | lst hq1 rr1 =>
        cases k2 with
        | lst hq2 rr2 =>
          exact ⟨_, _, _, _, rfl, .inl ⟨SqL.of (E1.sub _ _ hq1), SqL.of (E1.sub _ _ hq2), h1 _ _ rfl H1 Z1 (Same.refl _) E1 _ (walk_zipL hT (SqL.of hq1) rr1 (SqL.of hq2) rr2)⟩⟩
  · exact (h2 rfl).elim
theorem si_enu {elts : List Expr} {kk : Nat} {tpos : Pos} (hT : X.K = T.K) (hm : X.mg "enumerate" = none) (ha : SA X T W [e] fa) (hg : Gl X "enumerate" := by rfl)
    (hs : starEach [e] X.env = (false, eval e X.env) :: starEach [] X.env := by rfl) : SI X T W (.Tuple elts kk tpos) (.Call (.Name "enumerate" p) [e] [] pos) (iEn fa) := by
  refine PI.weak (pi_enum hg hm ha hs) fun σ H Rr ⟨G, B, Z, env, E, q⟩ => ?_
  refine useAI E q fun vs H1 Z1 e as s E1 r h1 h2 h3 => ?_
  split at h2
  · rename_i xs
    match vs, r with
    | [v1], ⟨k1, _⟩ =>
      cases k1 with
      | lst hq1 rr1 => exact ⟨_, _, rfl, SqL.of (E1.sub _ _ hq1), h1 _ _ rfl H1 Z1 (Same.refl _) E1 _ (walk_enu hT (SqL.of hq1) rr1)⟩
  · exact (h2 rfl).elim
def sAug (i : Nat) (q : Int → Int → Int) (f : Env' → R) : Env' → RS := fun env => match env[i]? with
  | some (.val (.int k)) => (f env).bindS fun d e => (match d, e[i]? with | .int j, some (.val (.int k')) => if k' = k then .nx (e.set i (.val (.int (q k j)))) else .no | _, _ => .no)
  | _ => .no
theorem ss_aug {i : Nat} {x : Str} {op : Operator} {q : Int → Int → Int} {pos' : Pos} (hN : X.N.Nodup) (ho : PIp X op (ipI q)) (he : SE X T W a f) (hi : X.N[i]? = some x := by rfl) (hx : Loc X.env.scope x := by first | exact Or.inl rfl | exact Or.inr rfl)
    (hf : X.fn x = true ∨ X.env.scope.names.lookup x = some .local := by first | exact .inl rfl | exact .inr rfl | assumption) : SS X T W (.AugAssign (.Name x pos') op a pos) (sAug i q f) := by
  refine PS.weak (ps_aug hN hi hx he ho hf) fun K σ H ⟨G, B, Z, env, E, h⟩ => ?_
  unfold sAug at h
  split at h
  · rename_i k hk
    obtain ⟨v, e1, r⟩ := E.val i _ hk
    cases r
    refine ⟨_, e1, useS E h fun y H1 Z1 e d s E1 r1 h1 => ?_⟩
    split at h1
    · rename_i j k' hk'
      split at h1
      · rename_i ek
        cases r1
        refine ⟨k, j, rfl, rfl, h1 _ _ Z1 (Same.refl _) (E1.store (r := .d (.int (q k j))) ?_ (.int _))⟩
        unfold canSet
        rw [hk']
      · exact h1.elim
    · exact h1.elim
  · exact h.elim
def relabelS (sc out : Scope) : Scope := { sc with names := sc.names.map fun q => if (q.2 == NameKind.free && out.kind == .function && out.names.lookup q.1 == some NameKind.cell) then (q.1, NameKind.cell) else q }
end
section
variable {e : Env'} {Q : R → Prop} {QI : RI → Prop} {QS : RS → Prop} {f g : Env' → R} {fa : Env' → RA}
def strK (N : Prop) (k : List Nat → Prop) : D → Prop
  | .str l => k l
  | _ => N
theorem Zhi {N k l} : strK N k (.str l) = k l := rfl
theorem Zhh {q} : wp (cMs q f fa) e Q = wp f e (bK Q fun d e1 => strK (Q .no) (fun l => wp fa e1 (aK Q fun as e2 => oK (avD as) (Q .no) fun ds => oK (q l ds) (Q .no) fun r => Q (.ok r e2))) d) := by
  unfold wp cMs
  refine (R_bind_wp (Q := Q)).trans ?_
  congr 1
  funext d e1
  cases d with
  | str l =>
    refine (RA_bind_wp (Q := Q)).trans ?_
    congr 1
    funext as e2
    unfold oK
    cases avD as with
    | none => rfl
    | some ds => cases h : q l ds <;> simp [h]
  | _ => rfl
def zpK (N : Prop) (k : List D → Prop) : List AV → Prop
  | [.d (.tup xs), .d (.tup ys)] => k (zipD xs ys)
  | [.d (.lst xs), .d (.lst ys)] => k (zipD xs ys)
  | _ => N
theorem Zhk {N k xs ys} : zpK N k [.d (.tup xs), .d (.tup ys)] = k (zipD xs ys) := rfl
theorem Zhl {N k xs ys} : zpK N k [.d (.lst xs), .d (.lst ys)] = k (zipD xs ys) := rfl
theorem Zhj : wp (iZp fa) e QI = wp fa e (aK QI fun as e1 => zpK (QI .no) (fun ds => QI (.ok ds e1)) as) := by
  unfold wp iZp
  refine (RA_bindI_wp (Q := QI)).trans ?_
  congr 1
  funext as e1
  unfold zpK
  split <;> rfl
def enK (N : Prop) (k : List D → Prop) : List AV → Prop
  | [.d (.lst xs)] => k (enuD xs)
  | _ => N
theorem Zhn {N k xs} : enK N k [.d (.lst xs)] = k (enuD xs) := rfl
theorem Zhm : wp (iEn fa) e QI = wp fa e (aK QI fun as e1 => enK (QI .no) (fun ds => QI (.ok ds e1)) as) := by
  unfold wp iEn
  refine (RA_bindI_wp (Q := QI)).trans ?_
  congr 1
  funext as e1
  unfold enK
  split <;> rfl
def agK (N : Prop) (k : Int → Prop) : SV → Prop
  | .val (.int i) => k i
  | _ => N
theorem Zhp {N k i} : agK N k (.val (.int i)) = k i := rfl
theorem Zho {i q} : wp (sAug i q f) e QS = getN e i (agK (QS .no) fun k => wp f e (bK QS fun d e1 => intK (QS .no) (fun j => getN e1 i (agK (QS .no) fun k' => iteK (decide (k' = k)) (putN e1 i (.val (.int (q k j))) fun e2 => QS (.nx e2)) (QS .no)) (QS .no)) d)) (QS .no) := by
  unfold wp sAug getN agK putN
  cases h : e[i]? with
  | none => rfl
  | some x =>
    cases x with
    | val d =>
      cases d with
      | int k =>
        refine (R_bindS_wp (Q := QS)).trans ?_
        congr 1
        funext d e1
        unfold intK iteK
        cases d with
        | int j =>
          cases h1 : e1[i]? with
          | none => rfl
          | some x1 =>
            cases x1 with
            | val d1 =>
              cases d1 with
              | int k' =>
                dsimp only
                by_cases hk : k' = k
                · subst hk; simp
                · simp [hk]
              | _ => rfl
            | _ => rfl
        | _ => rfl
      | _ => rfl
    | _ => rfl
end
theorem boolsD_map {α : Type} {l : List α} {f : α → Bool} : boolsD (l.map fun x => .bl (f x)) = some (l.map f) := by
  induction l with
  | nil => rfl
  | cons x l ih => show (boolsD (l.map fun x => .bl (f x))).map (f x :: ·) = _; rw [ih]; rfl
theorem intsD_map {α : Type} {l : List α} {f : α → Int} : intsD (l.map fun x => .int (f x)) = some (l.map f) := by
  induction l with
  | nil => rfl
  | cons x l ih => show (intsD (l.map fun x => .int (f x))).map (f x :: ·) = _; rw [ih]; rfl
theorem intsD_mapI {l : List Int} : intsD (l.map .int) = some l := by
  have := intsD_map (l := l) (f := id)
  rwa [List.map_id] at this
theorem strsD_map {α : Type} {l : List α} {f : α → List Nat} : strsD (l.map fun x => .str (f x)) = some (l.map f) := by
  induction l with
  | nil => rfl
  | cons x l ih => show (strsD (l.map fun x => .str (f x))).map (f x :: ·) = _; rw [ih]; rfl
theorem strsD_mapS {l : List (List Nat)} : strsD (l.map .str) = some l := by
  have := strsD_map (l := l) (f := id)
  rwa [List.map_id] at this
theorem Zlq {α : Type} {l : List α} {f : α → Bool} : bAll [.lst (l.map fun x => .bl (f x))] = some (.d (.bl (l.all f))) := by
  show (boolsD _).map _ = _
  rw [boolsD_map]
  show some (RV.d (.bl ((l.map f).all id))) = _
  rw [List.all_map]
  rfl
theorem Zlr {α : Type} {l : List α} {f : α → Bool} : bAny [.lst (l.map fun x => .bl (f x))] = some (.d (.bl (l.any f))) := by
  show (boolsD _).map _ = _
  rw [boolsD_map]
  show some (RV.d (.bl ((l.map f).any id))) = _
  rw [List.any_map]
  rfl
theorem Zlo {i j} : bMin2 [.int i, .int j] = some (.d (.int (min i j))) := rfl
theorem Zlp {i j} : bMax2 [.int i, .int j] = some (.d (.int (max i j))) := rfl
theorem qJoin_s {l : List Nat} {ys : List (List Nat)} (h : (ys.map (·.length)).sum + ys.length * l.length ≤ 16777216) : qJoin l [.lst (ys.map .str)] = some (.d (.str (TL.joinL l ys))) := by
  unfold qJoin
  dsimp only
  rw [strsD_mapS]
  exact if_pos h
theorem joinL_nil {ys : List (List Nat)} : TL.joinL [] ys = ys.flatten := by
  induction ys with
  | nil => rfl
  | cons y r ih =>
    cases r with
    | nil => simp [TL.joinL]
    | cons z r =>
      show y ++ ([] ++ TL.joinL [] (z :: r)) = _
      rw [ih]
      rfl
end L2.S

set_option Elab.async false
set_option linter.all false
set_option maxRecDepth 100000
set_option maxHeartbeats 4000000
namespace L2.S
open PySem PySem.Spec PyProof.Rows
theorem u65 {k : Nat} {A : Around} (r : Room k A) : A.units + 65 < cLine := by have := r.un; omega
section
variable {X : Cx} {T : Tb} {W : WX} {a b c e o : Expr} {es : List Expr} {f g : Env' → R} {fa : Env' → RA} {pos p apos cpos : Pos}
def flatD : D → Bool
  | .non => true
  | .bl _ => true
  | .int _ => true
  | .str _ => true
  | _ => false
theorem flat_eq {Z : Hp} {v w : V} {x y : D} (r1 : Rep T Z v x) (r2 : Rep T Z w y) (h1 : flatD x = true) (h2 : flatD y = true) (h3 : noMix x y = true) : flatV v = true ∧ flatV w = true ∧ eqV v w = eqD x y := by
  cases r1 <;> cases r2 <;> first
    | (simp [flatD] at h1; done)
    | (simp [flatD] at h2; done)
    | (simp [noMix] at h3; done)
    | (exact ⟨rfl, rfl, rfl⟩)
    | (exact ⟨rfl, rfl, str_beq _ _⟩)
theorem flat_any {Z : Hp} {w : V} {y : D} (r2 : Rep T Z w y) (h2 : flatD y = true) : ∀ {vs : List V} {ds : List D}, Reps T Z vs ds → (ds.all fun z => flatD z && noMix z y) = true → vs.all flatV = true ∧ (vs.any fun u => eqV u w) = ds.any fun z => eqD z y
  | _, _, .nil, _ => ⟨rfl, rfl⟩
  | _, _, .cons r rs, h => by
    rw [List.all_cons, Bool.and_eq_true, Bool.and_eq_true] at h
    obtain ⟨k1, k2, k3⟩ := flat_eq r r2 h.1.1 h2 h.1.2
    obtain ⟨k4, k5⟩ := flat_any r2 h2 rs h.2
    exact ⟨by rw [List.all_cons, k1, k4]; rfl, by rw [List.any_cons, List.any_cons, k3, k5]⟩
def pInF (neg : Bool) : D → D → Option RV := fun x y => match y with
  | .tup ys => if flatD x && ys.all (fun z => flatD z && noMix z x) then some (.d (.bl (if neg then !ys.any (fun z => eqD z x) else ys.any (fun z => eqD z x)))) else none
  | .lst ys => if flatD x && ys.all (fun z => flatD z && noMix z x) then some (.d (.bl (if neg then !ys.any (fun z => eqD z x) else ys.any (fun z => eqD z x)))) else none
  | _ => none
theorem inF_go (neg : Bool) (hT : X.K = T.K) (G : Gd) (B : List (Nat × Addr)) (Z H : Hp) (σ : St) (env : Env') (x y : V) (dx dy : D) (w : RV) (Q : VK) (E : EOk T G B Z H σ env) (r1 : Rep T Z x dx) (r2 : Rep T Z y dy) (e : pInF neg dx dy = some w)
    (c : ∀ v H' Z', Same Z Z' → EOk T G B Z' H' σ env → RRep T G Z' H' σ env v w → Q v H') : rIn X.K neg x y H Q := by
  have fx : flatD dx = true → flatV x = true := fun h => by cases r1 <;> first | rfl | (simp [flatD] at h; done)
  unfold pInF at e
  split at e
  · rename_i ys
    split at e
    · rename_i h
      cases e
      rw [Bool.and_eq_true] at h
      cases r2 with
      | tup hq rs =>
        obtain ⟨k1, k2⟩ := flat_any r1 h.1 rs h.2
        refine ⟨_, _, rfl, .inr (by rw [hT]; exact sqt_mono E.sub hq), fx h.1, k1, ?_⟩
        unfold inV
        rw [k2]
        exact c _ H Z (Same.refl _) E (.bl _)
    · cases e
  · rename_i ys
    split at e
    · rename_i h
      cases e
      rw [Bool.and_eq_true] at h
      cases r2 with
      | lst hq rs =>
        obtain ⟨k1, k2⟩ := flat_any r1 h.1 rs h.2
        refine ⟨_, _, rfl, .inl (SqL.of (E.sub _ _ hq)), fx h.1, k1, ?_⟩
        unfold inV
        rw [k2]
        exact c _ H Z (Same.refl _) E (.bl _)
    · cases e
  · cases e
theorem o_inF (hT : X.K = T.K) : Op2 X T (compareOp .In) (pInF false) := op_flat op_in_seq fun G B Z H σ env x y dx dy w Q E r1 r2 e c => inF_go false hT G B Z H σ env x y dx dy w Q E r1 r2 e c
theorem o_ninF (hT : X.K = T.K) : Op2 X T (compareOp .NotIn) (pInF true) := op_flat op_notIn_seq fun G B Z H σ env x y dx dy w Q E r1 r2 e c => inF_go true hT G B Z H σ env x y dx dy w Q E r1 r2 e c
theorem any_eqv {k : Nat} {x : D} (hx : plain k x = true) : ∀ {j : Nat} {ys : List D}, plains j ys = true → (ys.all fun z => noMix z x) = true → ((pds ys).any fun z => PyData.eqv z (pd x)) = ys.any fun z => eqD z x
  | _, [], _, _ => rfl
  | j, y :: ys, h, h2 => by
    unfold plains at h
    rw [Bool.and_eq_true] at h
    rw [List.all_cons, Bool.and_eq_true] at h2
    show (PyData.eqv (pd y) (pd x) || (pds ys).any fun z => PyData.eqv z (pd x)) = _
    rw [List.any_cons, eqv_eq j k y x h.1 hx h2.1, any_eqv hx h.2 h2.2]
def pInD (neg : Bool) : D → D → Option RV := fun x y => match y with
  | .lst ys => if plain 50 x && (plains 50 ys && ys.all fun z => noMix z x) then some (.d (.bl (if neg then !ys.any (fun z => eqD z x) else ys.any (fun z => eqD z x)))) else none
  | _ => none
theorem o_inD (hT : X.K = T.K) (hu : X.A.units + 65 < cLine) : Op2 X T (compareOp .In) (pInD false) := op_flat (op_inD hu) fun G B Z H σ env x y dx dy w Q E r1 r2 e c => by
  unfold pInD at e
  split at e
  · rename_i ys
    split at e
    · rename_i h
      cases e
      rw [Bool.and_eq_true, Bool.and_eq_true] at h
      obtain ⟨h1, h2, h3⟩ := h
      obtain ⟨a1, a2⟩ := pd_lay 50 dx h1
      have hp : plain 51 (.lst ys) = true := by show plains 50 ys = true; exact h2
      obtain ⟨b1, b2⟩ := pd_lay 51 (.lst ys) hp
      refine ⟨pd dx, pds ys, by rw [hT]; exact r1.dp E.sub 50 h1, by rw [hT]; exact r2.dp E.sub 51 hp, ?_, ?_, ?_⟩
      · unfold SeqAt.shaped; rw [a1, decide_eq_true (by omega)]; rfl
      · unfold SeqAt.shaped; rw [show PyData.canLay0 (.list (pds ys)) = true from b1, decide_eq_true (by show PyData.depth (pd (.lst ys)) ≤ _; omega)]; rfl
      · rw [any_eqv h1 h2 h3]
        exact c _ H Z (Same.refl _) E (.bl _)
    · cases e
  · cases e
theorem o_ninD (hT : X.K = T.K) (hu : X.A.units + 65 < cLine) : Op2 X T (compareOp .NotIn) (pInD true) := op_flat (op_notInD hu) fun G B Z H σ env x y dx dy w Q E r1 r2 e c => by
  unfold pInD at e
  split at e
  · rename_i ys
    split at e
    · rename_i h
      cases e
      rw [Bool.and_eq_true, Bool.and_eq_true] at h
      obtain ⟨h1, h2, h3⟩ := h
      obtain ⟨a1, a2⟩ := pd_lay 50 dx h1
      have hp : plain 51 (.lst ys) = true := by show plains 50 ys = true; exact h2
      obtain ⟨b1, b2⟩ := pd_lay 51 (.lst ys) hp
      refine ⟨pd dx, pds ys, by rw [hT]; exact r1.dp E.sub 50 h1, by rw [hT]; exact r2.dp E.sub 51 hp, ?_, ?_, ?_⟩
      · unfold SeqAt.shaped; rw [a1, decide_eq_true (by omega)]; rfl
      · unfold SeqAt.shaped; rw [show PyData.canLay0 (.list (pds ys)) = true from b1, decide_eq_true (by show PyData.depth (pd (.lst ys)) ≤ _; omega)]; rfl
      · rw [any_eqv h1 h2 h3]
        exact c _ H Z (Same.refl _) E (.bl _)
    · cases e
  · cases e
def pIn := orP pInS (orP (pInF false) (pInD false))
def pNin := orP pNinS (orP (pInF true) (pInD true))
theorem o_in (hT : X.K = T.K) (hu : X.A.units + 65 < cLine) : Op2 X T (compareOp .In) pIn := o_inS.or ((o_inF hT).or (o_inD hT hu))
theorem o_nin (hT : X.K = T.K) (hu : X.A.units + 65 < cLine) : Op2 X T (compareOp .NotIn) pNin := o_ninS.or ((o_ninF hT).or (o_ninD hT hu))
def pIsB (neg : Bool) : D → D → Option RV := fun x y => match x, y with | .bl a, .bl b => some (.d (.bl (if neg then !decide (a = b) else decide (a = b)))) | _, _ => none
theorem o_isB : Op2 X T (compareOp .Is) (pIsB false) := op_flat op_isBl fun G B Z H σ env x y dx dy w Q E r1 r2 e c => by
  unfold pIsB at e
  split at e
  · cases e
    cases r1; cases r2
    exact ⟨_, _, rfl, rfl, c _ H Z (Same.refl _) E (.bl _)⟩
  · cases e
theorem o_notB : Op2 X T (compareOp .IsNot) (pIsB true) := op_flat op_notBl fun G B Z H σ env x y dx dy w Q E r1 r2 e c => by
  unfold pIsB at e
  split at e
  · cases e
    cases r1; cases r2
    exact ⟨_, _, rfl, rfl, c _ H Z (Same.refl _) E (.bl _)⟩
  · cases e
def sPar3 (i j l : Nat) (fa : Env' → RA) : Env' → RS := fun env => match fa env with
  | .ok as e => (match avD as with
    | some [x, y, z] => if canSet e i && (canSet (e.set i (.val x)) j && canSet ((e.set i (.val x)).set j (.val y)) l) then .nx (((e.set i (.val x)).set j (.val y)).set l (.val z)) else .no
    | _ => .no)
  | .ex x e => .ex x e
  | .no => .no
theorem ss_par3 {i j l : Nat} {x y z : Str} {px py pz pt : Pos} {kt k2 pt2} (hc : X.calm = true) (hN : X.N.Nodup) (ha : SA X T W [a, b, c] fa) (hi : X.N[i]? = some x := by rfl) (hj : X.N[j]? = some y := by rfl) (hl : X.N[l]? = some z := by rfl) (hij : i ≠ j := by decide) (hil : i ≠ l := by decide) (hjl : j ≠ l := by decide)
    (hx : X.env.scope.names.lookup x = some .local := by rfl) (hy : X.env.scope.names.lookup y = some .local := by rfl) (hz : X.env.scope.names.lookup z = some .local := by rfl)
    (hw : swappedStores [.Tuple [.Name x px, .Name y py, .Name z pz] kt pt] (.Tuple [a, b, c] k2 pt2) X.env = pure (some [x, y, z]) := by rfl)
    (hs : swapsWithSole [.Tuple [.Name x px, .Name y py, .Name z pz] kt pt] (.Tuple [a, b, c] k2 pt2) pos.line X.env = pure false := by rfl) :
    SS X T W (.Assign [.Tuple [.Name x px, .Name y py, .Name z pz] kt pt] (.Tuple [a, b, c] k2 pt2) pos) (sPar3 i j l fa) := by
  refine PS.weak (ps_par3 hc hN hi hj hl hij hil hjl hx hy hz ha hw hs) fun K σ H ⟨G, B, Z, env, E, q⟩ => ?_
  show tXA T W fa σ H _
  refine ⟨G, B, Z, env, E, ?_⟩
  unfold sPar3 at q
  cases hf : fa env with
  | no => rw [hf] at q; exact q.elim
  | ex x e => rw [hf] at q; exact fun cls d H' Z' s' E' r' => q cls d σ H' Z' s' E' r'
  | ok as e =>
    rw [hf] at q
    dsimp only at q
    intro vs H1 Z1 s1 E1 r1
    split at q
    · rename_i dx dy dz hd
      have rs := r1.reps hd
      cases rs with
      | cons ra rs =>
        cases rs with
        | cons rb rs =>
          cases rs with
          | cons rc rs =>
            cases rs
            split at q
            · rename_i hcs
              rw [Bool.and_eq_true, Bool.and_eq_true] at hcs
              have E2 := E1.store (r := .d dx) hcs.1 ra
              have E3 := E2.store (r := .d dy) hcs.2.1 rb
              have E4 := E3.store (r := .d dz) hcs.2.2 rc
              exact ⟨_, _, _, rfl, q _ H1 Z1 s1 E4⟩
            · exact q.elim
    · exact q.elim
end
section
variable {e : Env'} {Q : RS → Prop} {fa : Env' → RA}
def p2K (N : Prop) (k : D → D → Prop) : List D → Prop
  | [x, y] => k x y
  | _ => N
theorem Zhs {N k x y} : p2K N k [x, y] = k x y := rfl
def p3K (N : Prop) (k : D → D → D → Prop) : List D → Prop
  | [x, y, z] => k x y z
  | _ => N
theorem Zht {N k x y z} : p3K N k [x, y, z] = k x y z := rfl
theorem Zhq {i j} : wp (sPar2 i j fa) e Q = wp fa e (aK Q fun as e1 => oK (avD as) (Q .no) (p2K (Q .no) fun x y => setN e1 i (.val x) (fun e2 => setN e2 j (.val y) (fun e3 => Q (.nx e3)) (Q .no)) (Q .no))) := by
  unfold wp sPar2 aK oK setN
  cases fa e with
  | ok as e1 =>
    dsimp only
    cases avD as with
    | none => rfl
    | some ds => match ds with
      | [] => rfl
      | [x] => rfl
      | [x, y] =>
        show Q (if (canSet e1 i && canSet (e1.set i (.val x)) j) = true then _ else _) = if canSet e1 i = true then (if canSet (e1.set i (.val x)) j = true then _ else _) else _
        by_cases h1 : canSet e1 i = true
        · by_cases h2 : canSet (e1.set i (.val x)) j = true
          · simp [h1, h2]
          · simp [h1, h2]
        · simp [h1]
      | _ :: _ :: _ :: _ => rfl
  | _ => rfl
theorem Zhr {i j l} : wp (sPar3 i j l fa) e Q = wp fa e (aK Q fun as e1 => oK (avD as) (Q .no) (p3K (Q .no) fun x y z => setN e1 i (.val x) (fun e2 => setN e2 j (.val y) (fun e3 => setN e3 l (.val z) (fun e4 => Q (.nx e4)) (Q .no)) (Q .no)) (Q .no))) := by
  unfold wp sPar3 aK oK setN
  cases fa e with
  | ok as e1 =>
    dsimp only
    cases avD as with
    | none => rfl
    | some ds => match ds with
      | [] => rfl
      | [x] => rfl
      | [x, y] => rfl
      | [x, y, z] =>
        show Q (if (canSet e1 i && (canSet (e1.set i (.val x)) j && canSet ((e1.set i (.val x)).set j (.val y)) l)) = true then _ else _) = if canSet e1 i = true then (if canSet (e1.set i (.val x)) j = true then (if canSet ((e1.set i (.val x)).set j (.val y)) l = true then _ else _) else _) else _
        by_cases h1 : canSet e1 i = true
        · by_cases h2 : canSet (e1.set i (.val x)) j = true
          · by_cases h3 : canSet ((e1.set i (.val x)).set j (.val y)) l = true
            · simp [h1, h2, h3]
            · simp [h1, h2, h3]
          · simp [h1, h2]
        · simp [h1]
      | _ :: _ :: _ :: _ :: _ => rfl
  | _ => rfl
end
section
variable {e : Env'} {Q : R → Prop} {lo hi : Env' → RO} {f g h : Env' → R}
theorem Zhu {i} : wp (cSlO i lo hi) e Q = getN e i (olK (Q .no) fun _ => wp lo e (uK Q fun l e1 => wp hi e1 (uK Q fun u e2 => getN e2 i (olK (Q .no) fun xs => Q (.ok (.o (.l (cut xs l u))) e2)) (Q .no)))) (Q .no) := by
  unfold wp cSlO
  refine (withO_wp (Q := Q)).trans ?_
  refine getN_k (congrArg (olK (Q .no)) ?_)
  funext _
  refine (RO_bind_wp (Q := Q)).trans ?_
  congr 1
  funext l e1
  refine (RO_bind_wp (Q := Q)).trans ?_
  congr 1
  funext u e2
  unfold getN olK
  cases h : e2[i]? with
  | none => rfl
  | some x => cases x with
    | own b o => cases o <;> rfl
    | _ => rfl
theorem Zhv : wp (cRv f) e Q = wp f e (bK Q fun d e1 => match d with | .lst xs => Q (.ok (.o (.l xs.reverse)) e1) | .ro xs => Q (.ok (.o (.l xs.reverse)) e1) | _ => Q .no) := by
  unfold wp cRv
  refine (R_bind_wp (Q := Q)).trans ?_
  congr 1
  funext d e1
  cases d <;> rfl
def chK (h : Env' → R) (q : D → D → Option RV) (y : D) (e : Env') (Q : R → Prop) : RV → Prop
  | .d (.bl b) => iteK b (wp h e (bK Q fun z e2 => oK (q y z) (Q .no) fun r => Q (.ok r e2))) (Q (.ok (.d (.bl false)) e))
  | _ => Q .no
theorem Zhw {q : D → D → Option RV} {y b} : chK h q y e Q (.d (.bl b)) = iteK b (wp h e (bK Q fun z e2 => oK (q y z) (Q .no) fun r => Q (.ok r e2))) (Q (.ok (.d (.bl false)) e)) := rfl
theorem Zhx {p q : D → D → Option RV} : wp (cCh p q f g h) e Q = wp f e (bK Q fun x e1 => wp g e1 (bK Q fun y e2 => oK (p x y) (Q .no) (chK h q y e2 Q))) := by
  unfold wp cCh
  refine (R_bind_wp (Q := Q)).trans ?_
  congr 1
  funext x e1
  refine (R_bind_wp (Q := Q)).trans ?_
  congr 1
  funext y e2
  unfold oK
  cases p x y with
  | none => rfl
  | some r =>
    cases r with
    | o o => rfl
    | d d =>
      cases d with
      | bl b =>
        cases b with
        | false => rfl
        | true =>
          refine (R_bind_wp (Q := Q)).trans ?_
          unfold chK iteK wp
          dsimp only
          rw [if_pos rfl]
          congr 1
          funext z e3
          exact Zbh
      | _ => rfl
end
theorem in_ints {neg : Bool} {i : Int} {ns : List Int} : pInF neg (.int i) (.tup (ns.map .int)) = some (.d (.bl (if neg then !decide (i ∈ ns) else decide (i ∈ ns)))) := by
  have h1 : ((ns.map D.int).all fun z => flatD z && noMix z (.int i)) = true := by rw [List.all_map]; rw [List.all_eq_true]; intro x _; rfl
  have h2 : ((ns.map D.int).any fun z => eqD z (.int i)) = decide (i ∈ ns) := by
    rw [List.any_map, Bool.eq_iff_iff, List.any_eq_true, decide_eq_true_iff]
    constructor
    · rintro ⟨x, hx, e⟩
      have : x = i := by simpa [eqD] using e
      rw [← this]; exact hx
    · intro h; exact ⟨i, h, by simp [eqD]⟩
  unfold pInF
  dsimp only
  rw [if_pos (by rw [h1]; rfl), h2]
theorem in_intsL {neg : Bool} {i : Int} {ns : List Int} : pInF neg (.int i) (.lst (ns.map .int)) = some (.d (.bl (if neg then !decide (i ∈ ns) else decide (i ∈ ns)))) := by
  have := in_ints (neg := neg) (i := i) (ns := ns)
  exact this
theorem Zls {i : Int} {ns : List Int} : pIn (.int i) (.tup (ns.map .int)) = some (.d (.bl (decide (i ∈ ns)))) := by
  show orP pInS (orP (pInF false) _) _ _ = _
  unfold orP
  rw [show pInS (.int i) (.tup (ns.map .int)) = none from rfl, in_ints]
  rfl
theorem Zlt {i : Int} {ns : List Int} : pNin (.int i) (.tup (ns.map .int)) = some (.d (.bl (!decide (i ∈ ns)))) := by
  show orP pNinS (orP (pInF true) _) _ _ = _
  unfold orP
  rw [show pNinS (.int i) (.tup (ns.map .int)) = none from rfl, in_ints]
  rfl
end L2.S

set_option linter.all false
namespace L2.S.W
def sgc (n d : Int) : Int := if 0 < d then (Int.gcd n d : Int) else -(Int.gcd n d : Int)
def nrN (n d : Int) : Int := n.fdiv (sgc n d)
def nrD (n d : Int) : Int := d.fdiv (sgc n d)
theorem sgc_ne {n d : Int} (h : d ≠ 0) : sgc n d ≠ 0 := by
  have : Int.gcd n d ≠ 0 := fun z => h (Int.gcd_eq_zero_iff.mp z).2
  unfold sgc
  split <;> omega
theorem sgc_dvd_n (n d : Int) : sgc n d ∣ n := by
  unfold sgc
  split
  · exact Int.gcd_dvd_left ..
  · exact (Int.neg_dvd).mpr (Int.gcd_dvd_left ..)
theorem sgc_dvd_d (n d : Int) : sgc n d ∣ d := by
  unfold sgc
  split
  · exact Int.gcd_dvd_right ..
  · exact (Int.neg_dvd).mpr (Int.gcd_dvd_right ..)
theorem fdiv_mul_of_dvd {a b : Int} (h : b ∣ a) : a.fdiv b * b = a := Int.fdiv_mul_cancel h
theorem nrN_mul (n d : Int) : nrN n d * sgc n d = n := fdiv_mul_of_dvd (sgc_dvd_n n d)
theorem nrD_mul (n d : Int) : nrD n d * sgc n d = d := fdiv_mul_of_dvd (sgc_dvd_d n d)
theorem nrD_pos {n d : Int} (h : d ≠ 0) : 0 < nrD n d := by
  have e := nrD_mul n d
  have hs := sgc_ne (n := n) h
  rcases Int.lt_trichotomy (nrD n d) 0 with q | q | q
  · exfalso
    by_cases hd : 0 < d
    · have : 0 < sgc n d := by unfold sgc at hs ⊢; rw [if_pos hd] at hs ⊢; omega
      have := Int.mul_neg_of_neg_of_pos q this
      omega
    · have : sgc n d < 0 := by unfold sgc at hs ⊢; rw [if_neg hd] at hs ⊢; omega
      have := Int.mul_pos_of_neg_of_neg q this
      omega
  · rw [q, Int.zero_mul] at e; exact (h e.symm).elim
  · exact q
theorem nr_cross (n d : Int) : nrN n d * d = n * nrD n d := by
  have h1 := nrN_mul n d
  have h2 := nrD_mul n d
  calc nrN n d * d = nrN n d * (nrD n d * sgc n d) := by rw [h2]
    _ = (nrN n d * sgc n d) * nrD n d := by ac_rfl
    _ = n * nrD n d := by rw [h1]
theorem natAbs_sgc (n d : Int) : (sgc n d).natAbs = Int.gcd n d := by
  unfold sgc
  split <;> omega
theorem nr_gcd {n d : Int} (h : d ≠ 0) : Int.gcd (nrN n d) (nrD n d) = 1 := by
  have g0 : 0 < Int.gcd n d := Nat.pos_of_ne_zero fun z => h (Int.gcd_eq_zero_iff.mp z).2
  have e : Int.gcd (nrN n d * sgc n d) (nrD n d * sgc n d) = Int.gcd (nrN n d) (nrD n d) * (sgc n d).natAbs := Int.gcd_mul_right ..
  rw [nrN_mul, nrD_mul, natAbs_sgc] at e
  exact Nat.eq_of_mul_eq_mul_right g0 (by omega)
theorem dvd_co {d n m : Int} (h : d ∣ n * m) (g : Int.gcd n d = 1) : d ∣ m := by
  have h' : d.natAbs ∣ n.natAbs * m.natAbs := by rw [← Int.natAbs_mul]; exact Int.natAbs_dvd_natAbs.mpr h
  have c : Nat.Coprime d.natAbs n.natAbs := by
    unfold Nat.Coprime
    rw [Nat.gcd_comm]
    exact g
  exact Int.natAbs_dvd_natAbs.mp (c.dvd_of_dvd_mul_left h')
theorem low_eq {n d n' d' : Int} (h : 0 < d) (h' : 0 < d') (g : Int.gcd n d = 1) (g' : Int.gcd n' d' = 1) (e : n * d' = n' * d) : n = n' ∧ d = d' := by
  have hd : d ∣ d' := by
    have : d ∣ n * d' := ⟨n', by rw [e]; ac_rfl⟩
    exact dvd_co this g
  have hd' : d' ∣ d := by
    have : d' ∣ n' * d := ⟨n, by rw [← e]; ac_rfl⟩
    exact dvd_co this g'
  have ed : d = d' := Int.dvd_antisymm (by omega) (by omega) hd hd'
  subst ed
  exact ⟨Int.eq_of_mul_eq_mul_right (by omega) e, rfl⟩
theorem nr_low {n d : Int} (h : 0 < d) (g : Int.gcd n d = 1) : nrN n d = n ∧ nrD n d = d := by
  have e : sgc n d = 1 := by unfold sgc; rw [if_pos h, g]; rfl
  unfold nrN nrD
  rw [e]
  exact ⟨Int.fdiv_one n, Int.fdiv_one d⟩
theorem nr_eq {n d n' d' : Int} (h : d ≠ 0) (h' : d' ≠ 0) (e : n * d' = n' * d) : nrN n d = nrN n' d' ∧ nrD n d = nrD n' d' := by
  refine low_eq (nrD_pos h) (nrD_pos h') (nr_gcd h) (nr_gcd h') ?_
  have c1 := nr_cross n d
  have c2 := nr_cross n' d'
  -- (N D') (d d') = n D d' ... 
  have hdd : d * d' ≠ 0 := Int.mul_ne_zero h h'
  refine Int.eq_of_mul_eq_mul_right hdd ?_
  calc nrN n d * nrD n' d' * (d * d') = (nrN n d * d) * (nrD n' d' * d') := by ac_rfl
    _ = (n * nrD n d) * (nrD n' d' * d') := by rw [c1]
    _ = (n * d') * (nrD n d * nrD n' d') := by ac_rfl
    _ = (n' * d) * (nrD n d * nrD n' d') := by rw [e]
    _ = (n' * nrD n' d') * (nrD n d * d) := by ac_rfl
    _ = (nrN n' d' * d') * (nrD n d * d) := by rw [c2]
    _ = nrN n' d' * nrD n d * (d * d') := by ac_rfl
end L2.S.W

set_option linter.all false
namespace L2.S.W
open L2.S
@[irreducible] def Bt (k : Nat) (x : Int) : Prop := x.natAbs < 2 ^ k
theorem Bt.of {k : Nat} {x : Int} (h : x.natAbs < 2 ^ k) : Bt k x := by unfold Bt; exact h
theorem Bt.lt {k : Nat} {x : Int} (h : Bt k x) : x.natAbs < 2 ^ k := by unfold Bt at h; exact h
theorem Bt.mono {a b : Nat} {x : Int} (h : Bt a x) (l : a ≤ b) : Bt b x := .of (natAbs_le_pow h.lt l)
theorem Bt.mul {a b : Nat} {x y : Int} (h : Bt a x) (k : Bt b y) : Bt (a + b) (x * y) := .of (natAbs_mul_lt h.lt k.lt)
theorem Bt.add {a : Nat} {x y : Int} (h : Bt a x) (k : Bt a y) : Bt (a + 1) (x + y) := .of (natAbs_add_lt h.lt k.lt)
theorem Bt.sub {a : Nat} {x y : Int} (h : Bt a x) (k : Bt a y) : Bt (a + 1) (x - y) := .of (natAbs_sub_lt h.lt k.lt)
theorem Bt.neg {a : Nat} {x : Int} (h : Bt a x) : Bt a (-x) := .of (by rw [Int.natAbs_neg]; exact h.lt)
theorem Bt.ok {a b : Nat} {x y : Int} (h : Bt a x) (k : Bt b y) (l : a + b ≤ 100000000 := by decide) (ha : 0 < a := by decide) (hb : 0 < b := by decide) : mulOk x y = true := mulOk_lt h.lt k.lt l ha hb
theorem Bt.s20 {x : Int} (h1 : -1000000 ≤ x) (h2 : x ≤ 1000000) : Bt 20 x := .of (by omega)
theorem Bt.s40 {x : Int} (h1 : -1000000000000 ≤ x) (h2 : x ≤ 1000000000000) : Bt 40 x := .of (by omega)
theorem Bt.zero {k : Nat} : Bt k 0 := .of (Nat.two_pow_pos k)
theorem Bt.bits {z : Int} {k : Nat} (h : PySem.Builtin.Int.intBits z ≤ k) : Bt k z := .of (bits_lt h)
theorem Bt.getD {ns : List Int} {k b : Nat} (h : ∀ z ∈ ns, PySem.Builtin.Int.intBits z ≤ b) : Bt b (ns.getD k 0) := by
  rw [List.getD_eq_getElem?_getD]
  cases q : ns[k]? with
  | none => exact .zero
  | some z => exact .bits (h z (List.mem_of_getElem? q))
end L2.S.W

set_option linter.all false
namespace L2.S.W
open L2.S
def Sz (k : Nat) (q : Rat) : Prop := Bt k q.num ∧ Bt k (q.den : Int)
theorem Sz.mono {a b : Nat} {q : Rat} (h : Sz a q) (l : a ≤ b) : Sz b q := ⟨h.1.mono l, h.2.mono l⟩
theorem den_pos' (q : Rat) : (0 : Int) < q.den := by have := q.den_pos; omega
theorem den_ne' (q : Rat) : (q.den : Int) ≠ 0 := by have := den_pos' q; omega
theorem num_gcd (q : Rat) : Int.gcd q.num q.den = 1 := q.reduced
theorem nr_q {n d : Int} (h : d ≠ 0) : nrN n d = (Rat.divInt n d).num ∧ nrD n d = ((Rat.divInt n d).den : Int) := by
  have e : Rat.divInt (Rat.divInt n d).num (Rat.divInt n d).den = Rat.divInt n d := Rat.num_divInt_den _
  have c := (Rat.divInt_eq_divInt_iff (den_ne' _) h).mp e
  have c1 := nr_cross n d
  refine low_eq (nrD_pos h) (den_pos' _) (nr_gcd h) (num_gcd _) ?_
  refine Int.eq_of_mul_eq_mul_right h ?_
  generalize hq : Rat.divInt n d = q at c ⊢
  calc nrN n d * ↑q.den * d = (nrN n d * d) * ↑q.den := by ac_rfl
    _ = n * nrD n d * ↑q.den := by rw [c1]
    _ = (n * ↑q.den) * nrD n d := by ac_rfl
    _ = (q.num * d) * nrD n d := by rw [c]
    _ = q.num * nrD n d * d := by ac_rfl
theorem nr_bt {n d : Int} {k : Nat} (h : d ≠ 0) (hn : Bt k n) (hd : Bt k d) : Bt k (nrN n d) ∧ Bt k (nrD n d) := by
  have g0 := sgc_ne (n := n) h
  have le : ∀ {x y : Int}, x * sgc n d = y → x.natAbs ≤ y.natAbs := fun {x y} e => by
    rw [← e, Int.natAbs_mul]
    exact Nat.le_mul_of_pos_right _ (by omega)
  exact ⟨.of (Nat.lt_of_le_of_lt (le (nrN_mul n d)) hn.lt), .of (Nat.lt_of_le_of_lt (le (nrD_mul n d)) hd.lt)⟩
theorem Sz.div {n d : Int} {k : Nat} (h : d ≠ 0) (hn : Bt k n) (hd : Bt k d) : Sz k (Rat.divInt n d) := by
  have := nr_bt h hn hd
  rw [(nr_q h).1, (nr_q h).2] at this
  exact this
theorem q_add (a b : Rat) : Rat.divInt (a.num * b.den + b.num * a.den) ((a.den : Int) * b.den) = a + b := by
  rw [← Rat.divInt_add_divInt _ _ (den_ne' a) (den_ne' b), Rat.num_divInt_den, Rat.num_divInt_den]
theorem q_sub (a b : Rat) : Rat.divInt (a.num * b.den - b.num * a.den) ((a.den : Int) * b.den) = a - b := by
  rw [← Rat.divInt_sub_divInt _ _ (den_ne' a) (den_ne' b), Rat.num_divInt_den, Rat.num_divInt_den]
theorem q_mul (a b : Rat) : Rat.divInt (a.num * b.num) ((a.den : Int) * b.den) = a * b := by
  rw [← Rat.divInt_mul_divInt, Rat.num_divInt_den, Rat.num_divInt_den]
theorem dd_ne (a b : Rat) : (a.den : Int) * b.den ≠ 0 := Int.mul_ne_zero (den_ne' a) (den_ne' b)
theorem Sz.add {a b : Rat} {k : Nat} (ha : Sz k a) (hb : Sz k b) : Sz (2 * k + 1) (a + b) := by
  rw [← q_add]
  exact .div (dd_ne a b) (((ha.1.mul hb.2).add (hb.1.mul ha.2)).mono (by omega)) ((ha.2.mul hb.2).mono (by omega))
theorem Sz.sub {a b : Rat} {k : Nat} (ha : Sz k a) (hb : Sz k b) : Sz (2 * k + 1) (a - b) := by
  rw [← q_sub]
  exact .div (dd_ne a b) (((ha.1.mul hb.2).sub (hb.1.mul ha.2)).mono (by omega)) ((ha.2.mul hb.2).mono (by omega))
theorem Sz.mul {a b : Rat} {j k : Nat} (ha : Sz j a) (hb : Sz k b) : Sz (j + k) (a * b) := by
  rw [← q_mul]
  exact .div (dd_ne a b) (ha.1.mul hb.1) (ha.2.mul hb.2)
theorem Sz.neg {a : Rat} {k : Nat} (ha : Sz k a) : Sz k (-a) := ⟨by rw [Rat.neg_num]; exact ha.1.neg, ha.2⟩
theorem Sz.inv {a : Rat} {k : Nat} (ha : Sz k a) (h : a ≠ 0) : Sz k a⁻¹ := by
  rw [Rat.inv_def]
  exact .div (fun z => h (Rat.num_eq_zero.mp z)) ha.2 ha.1
theorem Sz.zero : Sz 1 0 := ⟨.of (by decide), .of (by decide)⟩
theorem Sz.one : Sz 1 1 := ⟨.of (by decide), .of (by decide)⟩
theorem Bt.ok8 {a b : Nat} {x y : Int} (h : Bt a x) (k : Bt b y) (l : a + b ≤ 50000000) : mulOk x y = true :=
  Bt.ok (h.mono (Nat.le_succ a)) (k.mono (Nat.le_succ b)) (by omega) (by omega) (by omega)
abbrev rD (q : Rat) : D := .obj 0 [.int q.num, .int (q.den : Int)]
abbrev pD (q : Rat) : D := .tup [.int q.num, .int (q.den : Int)]
theorem rat_eq_b (a b : Rat) : (a.num == b.num && (a.den : Int) == (b.den : Int)) = decide (a = b) := by
  rw [Bool.eq_iff_iff, Bool.and_eq_true, beq_iff_eq, beq_iff_eq, decide_eq_true_iff]
  constructor
  · rintro ⟨h1, h2⟩
    exact Rat.ext h1 (by omega)
  · rintro rfl
    exact ⟨rfl, rfl⟩
theorem num_b (a : Rat) : (a.num == 0) = decide (a = 0) := by
  rw [Bool.eq_iff_iff, beq_iff_eq, decide_eq_true_iff]
  exact Rat.num_eq_zero
end L2.S.W

set_option linter.all false
namespace L2.S.W
open L2.S
def vec (n : Nat) (f : Nat → D) : List D := (List.range n).map f
section
variable {n m k : Nat} {f g : Nat → D} {x : D}
theorem vec_len : (vec n f).length = n := by simp [vec]
theorem vec_get (h : k < n) : (vec n f)[k]? = some (f k) := by
  unfold vec
  rw [List.getElem?_map, List.getElem?_range h]
  rfl
theorem vec_get' : (vec n f)[k]? = if k < n then some (f k) else none := by
  by_cases h : k < n
  · rw [if_pos h, vec_get h]
  · rw [if_neg h, List.getElem?_eq_none (by rw [vec_len]; omega)]
theorem vec_ext (h : ∀ i, i < n → f i = g i) : vec n f = vec n g := by
  unfold vec
  exact List.map_congr_left fun i hi => h i (List.mem_range.mp hi)
theorem vec_of {l : List D} (h : l.length = n) (hg : ∀ i, i < n → l[i]? = some (f i)) : l = vec n f := by
  apply List.ext_getElem?
  intro i
  rw [vec_get']
  split
  · rename_i hi; exact hg i hi
  · rename_i hi; exact List.getElem?_eq_none (by omega)
theorem vec_set : (vec n f).set k x = vec n (fun i => if i = k then x else f i) := by
  refine vec_of (by rw [List.length_set, vec_len]) fun i hi => ?_
  rw [List.getElem?_set, vec_len, vec_get hi]
  by_cases h : k = i
  · subst h; simp [hi]
  · rw [if_neg h, if_neg (fun e => h e.symm)]
theorem vec_map {F : D → D} : (vec n f).map F = vec n (fun i => F (f i)) := by
  unfold vec
  rw [List.map_map]
  rfl
theorem vec_zip : zipD (vec n f) (vec n g) = vec n (fun i => .tup [f i, g i]) := by
  unfold zipD
  refine vec_of (by simp [vec_len]) fun i hi => ?_
  rw [List.getElem?_map, List.getElem?_zip_eq_some.mpr (show (vec n f)[i]? = some ((f i, g i) : D × D).1 ∧ (vec n g)[i]? = some ((f i, g i) : D × D).2 from ⟨vec_get hi, vec_get hi⟩)]
  rfl
theorem vec_app : vec n f ++ vec m g = vec (n + m) (fun i => if i < n then f i else g (i - n)) := by
  refine vec_of (by simp [vec_len]) fun i hi => ?_
  by_cases h : i < n
  · rw [List.getElem?_append_left (by rw [vec_len]; exact h), vec_get h, if_pos h]
  · rw [List.getElem?_append_right (by rw [vec_len]; omega), vec_len, vec_get (by omega), if_neg h]
theorem vec_0 : vec 0 f = [] := rfl
theorem vec_1 : [x] = vec 1 (fun _ => x) := rfl
theorem vec_succ : vec (n + 1) f = vec n f ++ [f n] := by
  unfold vec
  rw [List.range_succ, List.map_append]
  rfl
theorem vec_take (h : k ≤ n) : (vec n f).take k = vec k f := by
  refine vec_of (by rw [List.length_take, vec_len]; omega) fun i hi => ?_
  rw [List.getElem?_take, if_pos hi, vec_get (by omega)]
theorem vec_drop : (vec n f).drop k = vec (n - k) (fun i => f (k + i)) := by
  refine vec_of (by rw [List.length_drop, vec_len]) fun i hi => ?_
  rw [List.getElem?_drop, vec_get (by omega)]
theorem vec_int {F : Nat → Int} : (vec n fun i => .int (F i)) = ((List.range n).map F).map .int := by
  unfold vec
  rw [List.map_map]
  rfl
theorem rng_vec : rngD 0 (n : Int) = vec n (fun i => .int (i : Int)) := rngD_0 n
end
def sumN : Nat → (Nat → Rat) → Rat
  | 0, _ => 0
  | n + 1, f => sumN n f + f n
section
variable {n : Nat} {f g : Nat → Rat} {c : Rat}
theorem sumN_ext : ∀ {n : Nat} {f g : Nat → Rat}, (∀ i, i < n → f i = g i) → sumN n f = sumN n g
  | 0, _, _, _ => rfl
  | n + 1, f, g, h => by
    show sumN n f + f n = sumN n g + g n
    rw [sumN_ext fun i hi => h i (by omega), h n (by omega)]
theorem sumN_zero : ∀ {n : Nat} {f : Nat → Rat}, (∀ i, i < n → f i = 0) → sumN n f = 0
  | 0, _, _ => rfl
  | n + 1, f, h => by
    show sumN n f + f n = 0
    rw [sumN_zero fun i hi => h i (by omega), h n (by omega), Rat.add_zero]
theorem sumN_add : ∀ {n : Nat} {f g : Nat → Rat}, sumN n (fun i => f i + g i) = sumN n f + sumN n g
  | 0, _, _ => by show (0 : Rat) = 0 + 0; rw [Rat.add_zero]
  | n + 1, f, g => by
    show sumN n (fun i => f i + g i) + (f n + g n) = (sumN n f + f n) + (sumN n g + g n)
    rw [sumN_add]
    grind
theorem sumN_mul : ∀ {n : Nat} {f : Nat → Rat}, sumN n (fun i => c * f i) = c * sumN n f
  | 0, _ => by show (0 : Rat) = c * 0; rw [Rat.mul_zero]
  | n + 1, f => by
    show sumN n (fun i => c * f i) + c * f n = c * (sumN n f + f n)
    rw [sumN_mul]
    grind
theorem sumN_neg : ∀ {n : Nat} {f : Nat → Rat}, sumN n (fun i => - f i) = - sumN n f
  | 0, _ => by show (0 : Rat) = -0; rfl
  | n + 1, f => by
    show sumN n (fun i => - f i) + - f n = - (sumN n f + f n)
    rw [sumN_neg]
    grind
theorem sumN_sub : sumN n (fun i => f i - g i) = sumN n f - sumN n g := by
  have e : (fun i => f i - g i) = fun i => f i + (- g i) := by funext i; rw [Rat.sub_eq_add_neg]
  rw [e, sumN_add, sumN_neg, Rat.sub_eq_add_neg]
theorem sumN_single : ∀ {n k : Nat} {f : Nat → Rat}, k < n → (∀ i, i < n → i ≠ k → f i = 0) → sumN n f = f k
  | 0, _, _, h, _ => by omega
  | n + 1, k, f, h, hz => by
    show sumN n f + f n = f k
    by_cases e : k = n
    · subst e
      rw [sumN_zero fun i hi => hz i (by omega) (by omega), Rat.zero_add]
    · rw [sumN_single (k := k) (by omega) fun i hi hn => hz i (by omega) hn, hz n (by omega) (fun z => e z.symm), Rat.add_zero]
theorem sumN_swap : ∀ {n m : Nat} {f : Nat → Nat → Rat}, sumN n (fun i => sumN m (fun j => f i j)) = sumN m (fun j => sumN n (fun i => f i j))
  | 0, m, f => by
    show (0 : Rat) = sumN m (fun _ => 0)
    rw [sumN_zero fun _ _ => rfl]
  | n + 1, m, f => by
    show sumN n (fun i => sumN m (fun j => f i j)) + sumN m (fun j => f n j) = sumN m (fun j => sumN n (fun i => f i j) + f n j)
    rw [sumN_swap, ← sumN_add]
theorem sumN_mulr : sumN n (fun i => f i * c) = sumN n f * c := by
  have e : (fun i => f i * c) = fun i => c * f i := by funext i; rw [Rat.mul_comm]
  rw [e, sumN_mul, Rat.mul_comm]
end
structure Tab where
  t : Nat → Nat → Rat
  pv : List Nat
def firstR (n : Nat) (t : Nat → Nat → Rat) (c lo : Nat) : Option Nat := (List.range n).find? fun i => decide (lo ≤ i) && decide (t i c ≠ 0)
def stepT (t : Nat → Nat → Rat) (d p c : Nat) : Nat → Nat → Rat := fun i j =>
  if i = d then (t p c)⁻¹ * t p j else (if i = p then t d else t i) j - (if i = p then t d else t i) c * ((t p c)⁻¹ * t p j)
def elim1 (n : Nat) (s : Tab) (c : Nat) : Tab := match firstR n s.t c s.pv.length with
  | none => s
  | some p => ⟨stepT s.t s.pv.length p c, s.pv ++ [c]⟩
def elim (n : Nat) (t : Nat → Nat → Rat) : Nat → Tab
  | 0 => ⟨t, []⟩
  | c + 1 => elim1 n (elim n t c) c
def Ker (n L : Nat) (t : Nat → Nat → Rat) (z : Nat → Rat) : Prop := ∀ i, i < n → sumN L (fun j => t i j * z j) = 0
structure Red (n L : Nat) (t0 : Nat → Nat → Rat) (c : Nat) (s : Tab) : Prop where
  le : s.pv.length ≤ n
  srt : s.pv.Pairwise (· < ·)
  lt : ∀ p ∈ s.pv, p < c
  unit : ∀ i j p, i < n → s.pv[j]? = some p → s.t i p = if i = j then 1 else 0
  zero : ∀ i j, s.pv.length ≤ i → i < n → j < c → s.t i j = 0
  lead : ∀ i p j, s.pv[i]? = some p → j < p → s.t i j = 0
  ker : ∀ z, Ker n L s.t z ↔ Ker n L t0 z
theorem firstR_some {n : Nat} {t : Nat → Nat → Rat} {c lo p : Nat} (h : firstR n t c lo = some p) : lo ≤ p ∧ p < n ∧ t p c ≠ 0 := by
  unfold firstR at h
  have h1 := List.find?_some h
  have h2 := List.mem_of_find?_eq_some h
  rw [Bool.and_eq_true] at h1
  exact ⟨of_decide_eq_true h1.1, List.mem_range.mp h2, of_decide_eq_true h1.2⟩
theorem firstR_none {n : Nat} {t : Nat → Nat → Rat} {c lo : Nat} (h : firstR n t c lo = none) {i : Nat} (h1 : lo ≤ i) (h2 : i < n) : t i c = 0 := by
  unfold firstR at h
  have := List.find?_eq_none.mp h i (List.mem_range.mpr h2)
  rw [Bool.and_eq_true] at this
  cases Classical.em (t i c = 0) with
  | inl e => exact e
  | inr e => exact (this ⟨decide_eq_true h1, decide_eq_true e⟩).elim
theorem step_ker {n L : Nat} {t : Nat → Nat → Rat} {d p c : Nat} (hd : d < n) (hp : p < n) (h : t p c ≠ 0) (z : Nat → Rat) : Ker n L (stepT t d p c) z ↔ Ker n L t z := by
  have inv : (t p c)⁻¹ ≠ 0 := fun e => by
    have := Rat.mul_inv_cancel _ h
    rw [e, Rat.mul_zero] at this
    exact absurd this (by decide)
  have rd : sumN L (fun j => stepT t d p c d j * z j) = (t p c)⁻¹ * sumN L (fun j => t p j * z j) := by
    rw [← sumN_mul]
    refine sumN_ext fun j _ => ?_
    unfold stepT
    rw [if_pos rfl, Rat.mul_assoc]
  have ri : ∀ i, i ≠ d → sumN L (fun j => stepT t d p c i j * z j) = sumN L (fun j => (if i = p then t d else t i) j * z j) - (if i = p then t d else t i) c * ((t p c)⁻¹ * sumN L (fun j => t p j * z j)) := fun i hi => by
    rw [← sumN_mul, ← sumN_mul, ← sumN_sub]
    refine sumN_ext fun j _ => ?_
    unfold stepT
    rw [if_neg hi]
    grind
  constructor
  · intro k
    have hpz : sumN L (fun j => t p j * z j) = 0 := by
      have := k d hd
      rw [rd] at this
      rcases Rat.mul_eq_zero.mp this with e | e
      · exact (inv e).elim
      · exact e
    intro i hi
    by_cases e1 : i = p
    · rw [e1]; exact hpz
    · by_cases e2 : i = d
      · by_cases e3 : p = d
        · exact (e1 (e2.trans e3.symm)).elim
        · have := k p hp
          rw [ri p e3, if_pos rfl, hpz, Rat.mul_zero, Rat.mul_zero] at this
          rw [e2]
          grind
      · have := k i hi
        rw [ri i e2, if_neg e1, hpz, Rat.mul_zero, Rat.mul_zero] at this
        grind
  · intro k i hi
    have hpz := k p hp
    by_cases e : i = d
    · rw [e, rd, hpz, Rat.mul_zero]
    · rw [ri i e, hpz, Rat.mul_zero, Rat.mul_zero]
      by_cases e1 : i = p
      · rw [if_pos e1, k d hd]; grind
      · rw [if_neg e1, k i hi]; grind
theorem elim_red (n L : Nat) (t0 : Nat → Nat → Rat) : ∀ c, Red n L t0 c (elim n t0 c)
  | 0 => ⟨Nat.zero_le _, .nil, by simp [elim], by simp [elim], by omega, by simp [elim], fun z => Iff.rfl⟩
  | c + 1 => by
    have R := elim_red n L t0 c
    show Red n L t0 (c + 1) (elim1 n (elim n t0 c) c)
    generalize elim n t0 c = s at R
    unfold elim1
    cases hf : firstR n s.t c s.pv.length with
    | none =>
      dsimp only
      refine ⟨R.le, R.srt, fun p hp => Nat.lt_succ_of_lt (R.lt p hp), R.unit, fun i j h1 h2 h3 => ?_, R.lead, R.ker⟩
      by_cases e : j = c
      · rw [e]; exact firstR_none hf h1 h2
      · exact R.zero i j h1 h2 (by omega)
    | some p =>
      dsimp only
      obtain ⟨h1, h2, h3⟩ := firstR_some hf
      obtain ⟨d, hd⟩ : ∃ d, s.pv.length = d := ⟨_, rfl⟩
      rw [hd] at h1 ⊢
      have hdn : d < n := by omega
      have inv := Rat.inv_mul_cancel _ h3
      -- the chosen row has zeros ahead of c
      have zp : ∀ j, j < c → s.t p j = 0 := fun j hj => R.zero p j (by omega) h2 hj
      have zd : ∀ j, j < c → s.t d j = 0 := fun j hj => R.zero d j (by omega) hdn hj
      have zz : ∀ i j, j < c → i ≠ d → stepT s.t d p c i j = if i = p then s.t d j else s.t i j := fun i j hj hi => by
        unfold stepT
        rw [if_neg hi, zp j hj, Rat.mul_zero, Rat.mul_zero]
        by_cases e : i = p
        · rw [if_pos e, if_pos e]; grind
        · rw [if_neg e, if_neg e]; grind
      have zzd : ∀ j, j < c → stepT s.t d p c d j = 0 := fun j hj => by
        unfold stepT
        rw [if_pos rfl, zp j hj, Rat.mul_zero]
      have cc : ∀ i, i < n → stepT s.t d p c i c = if i = d then 1 else 0 := fun i hi => by
        unfold stepT
        by_cases e : i = d
        · rw [if_pos e, if_pos e, inv]
        · rw [if_neg e, if_neg e, inv, Rat.mul_one, Rat.sub_self]
      refine ⟨?_, ?_, ?_, ?_, ?_, ?_, fun z => (step_ker hdn h2 h3 z).trans (R.ker z)⟩
      · rw [List.length_append]; simp; omega
      · rw [List.pairwise_append]
        refine ⟨R.srt, List.pairwise_singleton .., fun a ha b hb => ?_⟩
        rw [List.mem_singleton] at hb
        rw [hb]
        exact R.lt a ha
      · intro q hq
        rcases List.mem_append.mp hq with hq | hq
        · exact Nat.lt_succ_of_lt (R.lt q hq)
        · rw [List.mem_singleton] at hq; omega
      · intro i j q hi hj
        by_cases hjd : j < d
        · rw [List.getElem?_append_left (by omega)] at hj
          have hq : q < c := R.lt q (List.mem_of_getElem? hj)
          show stepT s.t d p c i q = _
          by_cases e : i = d
          · rw [e, zzd q hq, if_neg (by omega)]
          · rw [zz i q hq e]
            by_cases e1 : i = p
            · rw [if_pos e1, zd q hq, if_neg (by omega)]
            · rw [if_neg e1]
              exact R.unit i j q hi hj
        · rw [List.getElem?_append_right (by omega)] at hj
          have hjd' : j = d := by
            have := (List.getElem?_eq_some_iff.mp hj).1
            simp at this
            omega
          subst hjd'
          simp [hd] at hj
          subst hj
          exact cc i hi
      · intro i j hi1 hi2 hj
        rw [List.length_append] at hi1
        simp at hi1
        have hne : i ≠ d := by omega
        show stepT s.t d p c i j = 0
        by_cases e : j = c
        · rw [e, cc i hi2, if_neg hne]
        · have hj' : j < c := by omega
          rw [zz i j hj' hne]
          by_cases e1 : i = p
          · rw [if_pos e1, zd j hj']
          · rw [if_neg e1]
            exact R.zero i j (by omega) hi2 hj'
      · intro i q j hq hj
        show stepT s.t d p c i j = 0
        by_cases hid : i < d
        · rw [List.getElem?_append_left (by omega)] at hq
          have hqc : q < c := R.lt q (List.mem_of_getElem? hq)
          rw [zz i j (by omega) (by omega), if_neg (by omega)]
          exact R.lead i q j hq hj
        · rw [List.getElem?_append_right (by omega)] at hq
          have hid' : i = d := by
            have := (List.getElem?_eq_some_iff.mp hq).1
            simp at this
            omega
          subst hid'
          simp [hd] at hq
          subst hq
          exact zzd j hj
end L2.S.W

set_option linter.all false
namespace L2.S.W
open L2.S
theorem lc_vec {vs : List Nat} {h : D → Env' → Option Env'} {c : Env' → RT} {f : Env' → R} {e e0 : Env'} {Q : R → Prop} {n : Nat} {g : Nat → D} (F : Nat → D) (hw : canWipe e vs = true) (hz : wipeE e vs = e0) (hn : n ≤ 16777216) (hi : ∀ i, i < n → lcItem vs h c f (g i) e0 (fun y => y = some (F i))) (hq : Q (.ok (.o (.l (vec n F))) e)) : lcK vs h c f (vec n g) e Q :=
  lc_map (l := List.range n) F hw (by simpa using hn) (fun i hi' => by rw [hz]; exact hi i (List.mem_range.mp hi')) hq
theorem lc_rng {vs : List Nat} {h : D → Env' → Option Env'} {c : Env' → RT} {f : Env' → R} {e e0 : Env'} {Q : R → Prop} {n : Nat} (F : Nat → D) (hw : canWipe e vs = true) (hz : wipeE e vs = e0) (hn : n ≤ 16777216) (hi : ∀ i, i < n → lcItem vs h c f (.int (i : Int)) e0 (fun y => y = some (F i))) (hq : Q (.ok (.o (.l (vec n F))) e)) : lcK vs h c f (rngD 0 (n : Int)) e Q := by
  rw [rng_vec]
  exact lc_vec F hw hz hn hi hq
theorem rng_lo {d n : Nat} : rngD (d : Int) (n : Int) = ((List.range n).filter fun i => decide (d ≤ i)).map fun (i : Nat) => D.int (i : Int) := by
  rw [rngD_map]
  have e1 : ((n : Int) - (d : Int)).toNat = n - d := by omega
  rw [e1]
  clear e1
  by_cases h : n ≤ d
  · rw [show n - d = 0 by omega, List.filter_eq_nil_iff.mpr (fun a ha => by have := List.mem_range.mp ha; simp; omega)]
    rfl
  · obtain ⟨k, rfl⟩ : ∃ k, n = d + k := ⟨n - d, by omega⟩
    clear h
    rw [show d + k - d = k by omega]
    induction k with
    | zero =>
      rw [List.filter_eq_nil_iff.mpr (fun a ha => by have := List.mem_range.mp ha; simp; omega)]
      rfl
    | succ k ih =>
      rw [List.range_succ, List.map_append, ih, ← Nat.add_assoc, List.range_succ, List.filter_append, List.map_append]
      congr 1
      simp
theorem lc_find {vs : List Nat} {h : D → Env' → Option Env'} {c : Env' → RT} {f : Env' → R} {e e0 : Env'} {Q : R → Prop} {d n : Nat} (p : Nat → Bool) (hw : canWipe e vs = true) (hz : wipeE e vs = e0) (hn : n ≤ 16777216) (hi : ∀ i, d ≤ i → i < n → lcItem vs h c f (.int (i : Int)) e0 (fun y => y = if p i then some (.int (i : Int)) else none)) (hq : ∀ l : List Nat, (List.range n).filter (fun i => decide (d ≤ i) && p i) = l → Q (.ok (.o (.l (l.map fun (i : Nat) => D.int (i : Int)))) e)) : lcK vs h c f (rngD (d : Int) (n : Int)) e Q := by
  rw [rng_lo]
  refine lc_filter (l := (List.range n).filter fun i => decide (d ≤ i)) (g := fun (i : Nat) => D.int (i : Int)) p (fun (i : Nat) => D.int (i : Int)) hw ?_ (fun i hi' => ?_) ?_
  · exact Nat.le_trans (List.length_filter_le ..) (by simpa using hn)
  · rw [List.mem_filter, List.mem_range, decide_eq_true_iff] at hi'
    rw [hz]
    exact hi i hi'.2 hi'.1
  · rw [List.filter_filter]
    refine hq _ ?_
    congr 1
    funext i
    rw [Bool.and_comm]
theorem firstR_l {n : Nat} {t : Nat → Nat → Rat} {c lo : Nat} {l : List Nat} (h : (List.range n).filter (fun i => decide (lo ≤ i) && decide (t i c ≠ 0)) = l) : firstR n t c lo = l.head? := by
  unfold firstR
  rw [← List.head?_filter, h]
theorem vec_atI {n k : Nat} {f : Nat → D} (h : k < n) : atI (vec n f) (k : Int) = some (f k) := by
  rw [Zjh, vec_get h]
theorem plains_of {k : Nat} : ∀ {ds : List D}, (∀ d ∈ ds, plain k d = true) → plains k ds = true
  | [], _ => by simp [plains]
  | d :: ds, h => by
    rw [plains, h d (by simp), plains_of fun z hz => h z (by simp [hz])]
    rfl
theorem none_in {ds : List D} (h : ∀ d ∈ ds, ∃ a b : Int, d = .tup [.int a, .int b]) : pIn .non (.lst ds) = some (.d (.bl false)) := by
  cases ds with
  | nil => rfl
  | cons x xs =>
    have a0 : ((x :: xs).any fun z => eqD z .non) = false := by
      rw [List.any_eq_false]
      intro z hz
      obtain ⟨a, b, rfl⟩ := h z hz
      simp [eqD]
    have a1 : plains 50 (x :: xs) = true := plains_of fun z hz => by
      obtain ⟨a, b, rfl⟩ := h z hz
      rfl
    have a2 : ((x :: xs).all fun z => noMix z .non) = true := by
      rw [List.all_eq_true]
      intro z hz
      obtain ⟨a, b, rfl⟩ := h z hz
      rfl
    have e1 : pInD false .non (.lst (x :: xs)) = some (.d (.bl false)) := by
      unfold pInD
      dsimp only
      rw [if_pos (by rw [a1, a2]; rfl), a0]
      rfl
    have e2 : pInF false .non (.lst (x :: xs)) = none := by
      obtain ⟨a, b, hx⟩ := h x (by simp)
      unfold pInF
      dsimp only
      rw [if_neg (by rw [hx]; simp [flatD])]
    show orP pInS (orP (pInF false) (pInD false)) _ _ = _
    unfold orP
    rw [e2, e1]
    rfl
end L2.S.W

set_option linter.all false
namespace L2.S.W
open L2.S
abbrev rowD (L : Nat) (r : Nat → Rat) : D := .lst (vec L fun j => rD (r j))
abbrev rowT (L : Nat) (r : Nat → Rat) : D := .tup (vec L fun j => rD (r j))
abbrev rowP (L : Nat) (r : Nat → Rat) : D := .tup (vec L fun j => pD (r j))
@[irreducible] def tbD (n L : Nat) (t : Nat → Nat → Rat) : List D := vec n fun i => rowD L (t i)
theorem tb_len {n L : Nat} {t : Nat → Nat → Rat} : (tbD n L t).length = n := by unfold tbD; exact vec_len
theorem tb_at {n L i : Nat} {t : Nat → Nat → Rat} (h : i < n) : atI (tbD n L t) (i : Int) = some (rowD L (t i)) := by unfold tbD; exact vec_atI h
theorem tb_set {n L k : Nat} {t : Nat → Nat → Rat} {r : Nat → Rat} : (tbD n L t).set k (rowD L r) = tbD n L (fun i => if i = k then r else t i) := by
  unfold tbD
  rw [vec_set]
  refine vec_ext fun i _ => ?_
  by_cases h : i = k <;> simp [h]
theorem tb_ext {n L : Nat} {t u : Nat → Nat → Rat} (h : ∀ i j, i < n → j < L → t i j = u i j) : tbD n L t = tbD n L u := by
  unfold tbD
  refine vec_ext fun i hi => ?_
  show D.lst _ = D.lst _
  congr 1
  exact vec_ext fun j hj => by rw [h i j hi hj]
theorem Sz.add' {a b : Rat} {j k : Nat} (ha : Sz j a) (hb : Sz k b) : Sz (j + k + 1) (a + b) := by
  rw [← q_add]
  exact .div (dd_ne a b) (((ha.1.mul hb.2).mono (Nat.le_refl _)).add ((hb.1.mul ha.2).mono (by omega))) ((ha.2.mul hb.2).mono (by omega))
theorem Sz.sub' {a b : Rat} {j k : Nat} (ha : Sz j a) (hb : Sz k b) : Sz (j + k + 1) (a - b) := by
  rw [← q_sub]
  exact .div (dd_ne a b) (((ha.1.mul hb.2).mono (Nat.le_refl _)).sub ((hb.1.mul ha.2).mono (by omega))) ((ha.2.mul hb.2).mono (by omega))
theorem sum_sz {j k : Nat} : ∀ {n : Nat} {u v : Nat → Rat}, (∀ i, i < n → Sz j (u i)) → (∀ i, i < n → Sz k (v i)) → Sz (1 + n * (j + k + 1)) (sumN n fun i => u i * v i)
  | 0, _, _, _, _ => Sz.zero.mono (by omega)
  | n + 1, u, v, hu, hv => by
    show Sz _ (sumN n (fun i => u i * v i) + u n * v n)
    exact ((sum_sz (fun i hi => hu i (by omega)) fun i hi => hv i (by omega)).add' ((hu n (by omega)).mul (hv n (by omega)))).mono (by rw [Nat.add_mul]; omega)
theorem elim_sz {n L K : Nat} {t0 : Nat → Nat → Rat} (hK : 0 < K) (hs : ∀ i j, i < n → j < L → Sz K (t0 i j)) : ∀ c, c ≤ L → ∀ i j, i < n → j < L → Sz (K * 5 ^ c) ((elim n t0 c).t i j)
  | 0, _, i, j, hi, hj => by simpa [elim] using hs i j hi hj
  | c + 1, hc, i, j, hi, hj => by
    have ih := elim_sz hK hs c (by omega)
    have R := elim_red n L t0 c
    show Sz (K * 5 ^ (c + 1)) ((elim1 n (elim n t0 c) c).t i j)
    generalize elim n t0 c = s at ih R
    have p3 : 0 < K * 5 ^ c := Nat.mul_pos hK (Nat.pow_pos (by decide))
    have p4 : K * 5 ^ (c + 1) = K * 5 ^ c * 5 := by rw [Nat.pow_succ, Nat.mul_assoc]
    rw [p4]
    generalize K * 5 ^ c = M at ih p3
    unfold elim1
    cases hf : firstR n s.t c s.pv.length with
    | none => exact (ih i j hi hj).mono (by omega)
    | some p =>
      obtain ⟨h1, h2, h3⟩ := firstR_some hf
      have hd : s.pv.length < n := by omega
      show Sz (M * 5) (stepT s.t s.pv.length p c i j)
      have r : ∀ j, j < L → Sz (M + M) ((s.t p c)⁻¹ * s.t p j) := fun j hj => ((ih p c h2 (by omega)).inv h3).mul (ih p j h2 hj)
      have q : ∀ j, j < L → Sz M ((if i = p then s.t s.pv.length else s.t i) j) := fun j hj => by
        split
        · exact ih _ j hd hj
        · exact ih i j hi hj
      unfold stepT
      split
      · exact (r j hj).mono (by omega)
      · exact ((q j hj).sub' ((q c (by omega)).mul (r j hj))).mono (by omega)
theorem ixN_nat {n k : Nat} (h : k < n) : ixN n (k : Int) = some k := by
  unfold ixN
  rw [if_pos (by omega), if_pos (by omega)]
  rfl
@[irreducible] def pvD (l : List Nat) : List D := l.map fun (p : Nat) => D.int (p : Int)
theorem pv_len {l : List Nat} : (pvD l).length = l.length := by unfold pvD; simp
theorem pv_nil : pvD [] = [] := by unfold pvD; rfl
theorem pv_app {l : List Nat} {c : Nat} : pvD l ++ [.int (c : Int)] = pvD (l ++ [c]) := by unfold pvD; simp
theorem pv_at {l : List Nat} {i : Nat} : (pvD l)[i]? = (l[i]?).map fun (p : Nat) => D.int (p : Int) := by unfold pvD; rw [List.getElem?_map]
theorem mem_pv {l : List Nat} {k : Nat} : (k : Int) ∈ l.map (fun (p : Nat) => (p : Int)) ↔ k ∈ l := by
  rw [List.mem_map]
  constructor
  · rintro ⟨a, h, e⟩
    have : a = k := by omega
    rwa [← this]
  · intro h
    exact ⟨k, h, rfl⟩
theorem pIn_pv {l : List Nat} {k : Nat} : pIn (.int (k : Int)) (.tup (pvD l)) = some (.d (.bl (decide (k ∈ l)))) := by
  have : pvD l = (l.map fun (p : Nat) => (p : Int)).map D.int := by unfold pvD; rw [List.map_map]; rfl
  rw [this, Zls]
  simp only [mem_pv]
theorem pNin_pv {l : List Nat} {k : Nat} : pNin (.int (k : Int)) (.tup (pvD l)) = some (.d (.bl (!decide (k ∈ l)))) := by
  have : pvD l = (l.map fun (p : Nat) => (p : Int)).map D.int := by unfold pvD; rw [List.map_map]; rfl
  rw [this, Zlt]
  simp only [mem_pv]
theorem tbD_eq {n L : Nat} {t : Nat → Nat → Rat} : (vec n fun i => rowD L (t i)) = tbD n L t := by unfold tbD; rfl
theorem tb_take {n L k : Nat} {t : Nat → Nat → Rat} (h : k ≤ n) : (tbD n L t).take k = tbD k L t := by unfold tbD; exact vec_take h
theorem tb_drop {n L k : Nat} {t : Nat → Nat → Rat} : (tbD n L t).drop k = vec (n - k) fun i => rowD L (t (k + i)) := by unfold tbD; exact vec_drop
abbrev mD (h w : Nat) (t : Nat → Nat → Rat) : D := .obj 1 [.tup (vec h fun i => rowT w (t i)), .int w]
theorem pv_vec {l : List Nat} : pvD l = vec l.length fun i => .int ((l.getD i 0 : Nat) : Int) := by
  refine vec_of pv_len fun i hi => ?_
  rw [pv_at, List.getD_eq_getElem?_getD, List.getElem?_eq_getElem hi]
  rfl
def kvec (s : Tab) (f : Nat) : Nat → Nat → Rat
  | 0 => fun j => if j = f then 1 else 0
  | i + 1 => fun j => if j = s.pv.getD i 0 then - s.t i f else kvec s f i j
def svec (s : Tab) (w : Nat) : Nat → Nat → Rat
  | 0 => fun _ => 0
  | i + 1 => fun j => if j = s.pv.getD i 0 then s.t i w else svec s w i j
def frees (pv : List Nat) (n : Nat) : List Nat := (List.range n).filter fun f => !decide (f ∈ pv)
theorem frees_succ {pv : List Nat} {n : Nat} : frees pv (n + 1) = if n ∈ pv then frees pv n else frees pv n ++ [n] := by
  unfold frees
  rw [List.range_succ, List.filter_append]
  by_cases h : n ∈ pv <;> simp [h]
def augT (w : Nat) (t : Nat → Nat → Rat) (b : Nat → Rat) : Nat → Nat → Rat := fun k j => if j < w + 1 then (if j < w then t k j else b k) else (if j - (w + 1) = k then 1 else 0)
theorem vec_zip2 {n m : Nat} {f g : Nat → D} (h : m ≤ n) : zipD (vec n f) (vec m g) = vec m (fun i => .tup [f i, g i]) := by
  unfold zipD
  refine vec_of (by simp [vec_len]; omega) fun i hi => ?_
  rw [List.getElem?_map, List.getElem?_zip_eq_some.mpr (show (vec n f)[i]? = some ((f i, g i) : D × D).1 ∧ (vec m g)[i]? = some ((f i, g i) : D × D).2 from ⟨vec_get (by omega), vec_get hi⟩)]
  rfl
theorem firstR_is {n : Nat} {t : Nat → Nat → Rat} {c lo p : Nat} (h1 : lo ≤ p) (h2 : p < n) (h3 : t p c ≠ 0) (h4 : ∀ k, lo ≤ k → k < p → t k c = 0) : firstR n t c lo = some p := by
  cases hf : firstR n t c lo with
  | none => exact (h3 (firstR_none hf h1 h2)).elim
  | some q =>
    obtain ⟨g1, g2, g3⟩ := firstR_some hf
    by_cases e : q < p
    · exact (g3 (h4 q g1 e)).elim
    · by_cases e2 : p < q
      · unfold firstR at hf
        have := List.find?_eq_some_iff_append.mp hf
        obtain ⟨_, as, bs, hab, hz⟩ := this
        have hl : as.length = q := by
          have hq : (List.range n)[as.length]? = some q := by rw [hab, List.getElem?_append_right (Nat.le_refl _)]; simp
          have := List.getElem?_eq_some_iff.mp hq
          obtain ⟨h5, h6⟩ := this
          simpa using h6
        have hp : p ∈ as := by
          have hq : as[p]? = some p := by
            have : (List.range n)[p]? = some p := by rw [List.getElem?_range h2]
            rw [hab, List.getElem?_append_left (by omega)] at this
            exact this
          exact List.mem_of_getElem? hq
        have := hz p hp
        simp [h1, h3] at this
      · rw [show q = p by omega]
theorem firstR_no {n : Nat} {t : Nat → Nat → Rat} {c lo : Nat} (h4 : ∀ k, lo ≤ k → k < n → t k c = 0) : firstR n t c lo = none := by
  cases hf : firstR n t c lo with
  | none => rfl
  | some q =>
    obtain ⟨g1, g2, g3⟩ := firstR_some hf
    exact (g3 (h4 q g1 g2)).elim
end L2.S.W

set_option linter.all false
namespace L2.S.W
open L2.S
theorem sumN_app {n : Nat} {f : Nat → Rat} : ∀ {m : Nat}, sumN (n + m) f = sumN n f + sumN m fun i => f (n + i)
  | 0 => by show sumN n f = sumN n f + 0; rw [Rat.add_zero]
  | m + 1 => by
    show sumN (n + m) f + f (n + m) = sumN n f + (sumN m (fun i => f (n + i)) + f (n + m))
    rw [sumN_app, Rat.add_assoc]
namespace Red
variable {n L w : Nat} {t0 : Nat → Nat → Rat} {s : Tab}
theorem get (_ : Red n L t0 w s) {i : Nat} (hi : i < s.pv.length) : s.pv[i]? = some (s.pv.getD i 0) := by
  rw [List.getD_eq_getElem?_getD, List.getElem?_eq_getElem hi]
  rfl
theorem mem (R : Red n L t0 w s) {i : Nat} (hi : i < s.pv.length) : s.pv.getD i 0 ∈ s.pv := List.mem_of_getElem? (R.get hi)
theorem plt (R : Red n L t0 w s) {i : Nat} (hi : i < s.pv.length) : s.pv.getD i 0 < w := R.lt _ (R.mem hi)
theorem inj (R : Red n L t0 w s) {i k : Nat} (hi : i < s.pv.length) (hk : k < s.pv.length) (e : s.pv.getD i 0 = s.pv.getD k 0) : i = k := by
  have h := List.pairwise_iff_getElem.mp R.srt
  rw [List.getD_eq_getElem?_getD, List.getD_eq_getElem?_getD, List.getElem?_eq_getElem hi, List.getElem?_eq_getElem hk] at e
  have e : s.pv[i] = s.pv[k] := e
  rcases Nat.lt_trichotomy i k with h1 | h1 | h1
  · have := h i k hi hk h1; omega
  · exact h1
  · have := h k i hk hi h1; omega
theorem ofmem (_ : Red n L t0 w s) {j : Nat} (h : j ∈ s.pv) : ∃ k, k < s.pv.length ∧ s.pv.getD k 0 = j := by
  obtain ⟨k, hk, e⟩ := List.mem_iff_getElem.mp h
  refine ⟨k, hk, ?_⟩
  rw [List.getD_eq_getElem?_getD, List.getElem?_eq_getElem hk]
  exact e
theorem unitP (R : Red n L t0 w s) {i k : Nat} (hi : i < n) (hk : k < s.pv.length) : s.t i (s.pv.getD k 0) = if i = k then 1 else 0 := R.unit i k _ hi (R.get hk)
theorem row (R : Red n L t0 w s) {i : Nat} {z : Nat → Rat} (hi : i < s.pv.length) (hz : ∀ j, j < w → j ∉ s.pv → s.t i j * z j = 0) : sumN w (fun j => s.t i j * z j) = z (s.pv.getD i 0) := by
  have hn := R.le
  rw [sumN_single (k := s.pv.getD i 0) (R.plt hi) fun j hj hne => ?_, R.unitP (by omega) hi, if_pos rfl, Rat.one_mul]
  by_cases hm : j ∈ s.pv
  · obtain ⟨k, hk, rfl⟩ := R.ofmem hm
    rw [R.unitP (by omega) hk, if_neg (fun e => hne (by rw [e])), Rat.zero_mul]
  · exact hz j hj hm
theorem row0 (R : Red n L t0 w s) {i : Nat} {z : Nat → Rat} (h1 : s.pv.length ≤ i) (h2 : i < n) : sumN w (fun j => s.t i j * z j) = 0 :=
  sumN_zero fun j hj => by rw [R.zero i j h1 h2 hj, Rat.zero_mul]
theorem kout (R : Red n L t0 w s) {f j : Nat} (hj : j ∉ s.pv) : ∀ {m : Nat}, m ≤ s.pv.length → kvec s f m j = if j = f then 1 else 0
  | 0, _ => rfl
  | m + 1, hm => by
    show (if j = s.pv.getD m 0 then _ else _) = _
    rw [if_neg (fun e => hj (by rw [e]; exact R.mem hm)), R.kout hj (by omega)]
theorem kin (R : Red n L t0 w s) {f i : Nat} : ∀ {m : Nat}, m ≤ s.pv.length → i < m → kvec s f m (s.pv.getD i 0) = - s.t i f
  | 0, _, h => by omega
  | m + 1, hm, h => by
    show (if s.pv.getD i 0 = s.pv.getD m 0 then _ else _) = _
    by_cases e : i = m
    · rw [if_pos (by rw [e]), e]
    · rw [if_neg (fun z => e (R.inj (by omega) hm z)), R.kin (by omega) (by omega)]
theorem sout (R : Red n L t0 w s) {v j : Nat} (hj : j ∉ s.pv) : ∀ {m : Nat}, m ≤ s.pv.length → svec s v m j = 0
  | 0, _ => rfl
  | m + 1, hm => by
    show (if j = s.pv.getD m 0 then _ else _) = _
    rw [if_neg (fun e => hj (by rw [e]; exact R.mem hm)), R.sout hj (by omega)]
theorem sin (R : Red n L t0 w s) {v i : Nat} : ∀ {m : Nat}, m ≤ s.pv.length → i < m → svec s v m (s.pv.getD i 0) = s.t i v
  | 0, _, h => by omega
  | m + 1, hm, h => by
    show (if s.pv.getD i 0 = s.pv.getD m 0 then _ else _) = _
    by_cases e : i = m
    · rw [if_pos (by rw [e]), e]
    · rw [if_neg (fun z => e (R.inj (by omega) hm z)), R.sin (by omega) (by omega)]
theorem kker (R : Red n w t0 w s) {f : Nat} (hf : f < w) (hm : f ∉ s.pv) : Ker n w t0 (kvec s f s.pv.length) := by
  rw [← R.ker]
  intro i hi
  by_cases h : i < s.pv.length
  · have e : (fun j => s.t i j * kvec s f s.pv.length j) = fun j => s.t i j * (kvec s f s.pv.length j - (if j = f then 1 else 0)) + s.t i j * (if j = f then 1 else 0) := by
      funext j; grind
    rw [e, sumN_add, R.row (z := fun j => kvec s f s.pv.length j - (if j = f then 1 else 0)) h fun j hj hn => by rw [R.kout hn (Nat.le_refl _)]; grind]
    rw [sumN_single (k := f) hf fun j hj hne => by rw [if_neg hne, Rat.mul_zero], if_pos rfl, R.kin (Nat.le_refl _) h, if_neg (fun e => hm (by rw [← e]; exact R.mem h))]
    grind
  · exact R.row0 (by omega) hi
theorem kzero (R : Red n w t0 w s) {z : Nat → Rat} (hk : Ker n w t0 z) (hz : ∀ j, j < w → j ∉ s.pv → z j = 0) : ∀ j, j < w → z j = 0 := by
  rw [← R.ker] at hk
  intro j hj
  by_cases hm : j ∈ s.pv
  · obtain ⟨k, hkd, rfl⟩ := R.ofmem hm
    have := hk k (by have := R.le; omega)
    rwa [R.row hkd fun i hi hn => by rw [hz i hi hn, Rat.mul_zero]] at this
  · exact hz j hj hm
end Red
theorem Ker.sub {n L : Nat} {t : Nat → Nat → Rat} {y z : Nat → Rat} (hy : Ker n L t y) (hz : Ker n L t z) : Ker n L t fun j => y j - z j := fun i hi => by
  have e : (fun j => t i j * (y j - z j)) = fun j => t i j * y j - t i j * z j := by funext j; grind
  rw [e, sumN_sub, hy i hi, hz i hi]
  grind
theorem Ker.sum {n L : Nat} {t : Nat → Nat → Rat} {m : Nat} {c : Nat → Rat} {v : Nat → Nat → Rat} (hv : ∀ k, k < m → Ker n L t (v k)) : Ker n L t fun j => sumN m fun k => c k * v k j := fun i hi => by
  have e : (fun j => t i j * sumN m fun k => c k * v k j) = fun j => sumN m fun k => c k * (t i j * v k j) := by
    funext j
    rw [← sumN_mul]
    exact sumN_ext fun k _ => by grind
  rw [e, sumN_swap]
  refine sumN_zero fun k hk => ?_
  rw [sumN_mul, hv k hk i hi, Rat.mul_zero]
theorem mem_frees {pv : List Nat} {n f : Nat} : f ∈ frees pv n ↔ f < n ∧ f ∉ pv := by
  unfold frees
  rw [List.mem_filter, List.mem_range]
  simp
theorem Red.basis {n w : Nat} {t0 : Nat → Nat → Rat} {s : Tab} (R : Red n w t0 w s) {z : Nat → Rat} (hk : Ker n w t0 z) {F : List Nat} (hF : F = frees s.pv w) {j : Nat} (hj : j < w) :
    sumN F.length (fun k => z (F.getD k 0) * kvec s (F.getD k 0) s.pv.length j) = z j := by
  have hFm : ∀ k, k < F.length → F.getD k 0 < w ∧ F.getD k 0 ∉ s.pv := fun k h => by
    have : F.getD k 0 ∈ F := by rw [List.getD_eq_getElem?_getD, List.getElem?_eq_getElem h]; exact List.getElem_mem h
    rw [hF] at this ⊢
    exact mem_frees.mp this
  have hinj : ∀ k l, k < F.length → l < F.length → F.getD k 0 = F.getD l 0 → k = l := fun k l h1 h2 e => by
    have nd : F.Nodup := by rw [hF]; exact List.Nodup.sublist List.filter_sublist List.nodup_range
    rw [List.getD_eq_getElem?_getD, List.getD_eq_getElem?_getD, List.getElem?_eq_getElem h1, List.getElem?_eq_getElem h2] at e
    have e : F[k] = F[l] := e
    have h := List.pairwise_iff_getElem.mp nd
    rcases Nat.lt_trichotomy k l with g | g | g
    · exact (h k l h1 h2 g e).elim
    · exact g
    · exact (h l k h2 h1 g e.symm).elim
  have K2 : Ker n w t0 fun j => sumN F.length (fun k => z (F.getD k 0) * kvec s (F.getD k 0) s.pv.length j) := Ker.sum (c := fun k => z (F.getD k 0)) (v := fun k => kvec s (F.getD k 0) s.pv.length) fun k h => R.kker (hFm k h).1 (hFm k h).2
  have := R.kzero (hk.sub K2) (fun i hi hm => ?_) j hj
  · grind
  · obtain ⟨k, hk2, e⟩ : ∃ k, k < F.length ∧ F.getD k 0 = i := by
      have : i ∈ F := by
        rw [hF]
        exact mem_frees.mpr ⟨hi, hm⟩
      obtain ⟨k, h1, e⟩ := List.mem_iff_getElem.mp this
      exact ⟨k, h1, by rw [List.getD_eq_getElem?_getD, List.getElem?_eq_getElem h1]; exact e⟩
    rw [sumN_single (k := k) hk2 fun l hl hne => ?_, R.kout hm (Nat.le_refl _), if_pos e.symm, e]
    · grind
    · rw [R.kout hm (Nat.le_refl _), if_neg (fun z => hne (hinj l k hl hk2 (by rw [e, z]))), Rat.mul_zero]
def beside (w : Nat) (x : Nat → Rat) : Nat → Rat := fun j => if j < w then x j else if j = w then -1 else 0
theorem beside_sum {w h : Nat} {u x : Nat → Rat} : sumN (w + 1 + h) (fun j => u j * beside w x j) = sumN w (fun j => u j * x j) - u w := by
  have z : sumN h (fun i => u (w + 1 + i) * beside w x (w + 1 + i)) = 0 := sumN_zero fun i _ => by unfold beside; rw [if_neg (by omega), if_neg (by omega), Rat.mul_zero]
  rw [sumN_app, z, Rat.add_zero]
  show sumN w (fun j => u j * beside w x j) + u w * beside w x w = _
  rw [sumN_ext (f := fun j => u j * beside w x j) (g := fun j => u j * x j) fun j hj => by unfold beside; rw [if_pos hj]]
  unfold beside
  rw [if_neg (by omega), if_pos rfl]
  grind
theorem beside_ker {w h : Nat} {t : Nat → Nat → Rat} {b x : Nat → Rat} : Ker h (w + 1 + h) (augT w t b) (beside w x) ↔ ∀ i, i < h → sumN w (fun j => t i j * x j) = b i := by
  have e : ∀ i, sumN (w + 1 + h) (fun j => augT w t b i j * beside w x j) = sumN w (fun j => t i j * x j) - b i := fun i => by
    rw [beside_sum, sumN_ext (f := fun j => augT w t b i j * x j) (g := fun j => t i j * x j) fun j hj => by unfold augT; rw [if_pos (by omega), if_pos hj]]
    unfold augT
    rw [if_pos (by omega), if_neg (by omega)]
  unfold Ker
  constructor
  · intro k i hi
    have := k i hi
    rw [e] at this
    grind
  · intro k i hi
    rw [e, k i hi]
    grind
theorem solve_is {w h : Nat} {t : Nat → Nat → Rat} {b : Nat → Rat} {s : Tab} (R : Red h (w + 1 + h) (augT w t b) w s) (hf : firstR h s.t w s.pv.length = none) {i : Nat} (hi : i < h) : sumN w (fun j => t i j * svec s w s.pv.length j) = b i := by
  revert i
  rw [← beside_ker, ← R.ker]
  intro i hi
  rw [beside_sum]
  by_cases hd : i < s.pv.length
  · rw [R.row hd fun j hj hm => by rw [R.sout hm (Nat.le_refl _), Rat.mul_zero], R.sin (Nat.le_refl _) hd]
    grind
  · rw [R.row0 (by omega) hi, firstR_none hf (by omega) hi]
    grind
theorem solve_some {w h : Nat} {t : Nat → Nat → Rat} {b x : Nat → Rat} {s : Tab} (R : Red h (w + 1 + h) (augT w t b) w s) (hx : ∀ i, i < h → sumN w (fun j => t i j * x j) = b i) : firstR h s.t w s.pv.length = none := by
  rw [← beside_ker, ← R.ker] at hx
  refine firstR_no fun k h1 h2 => ?_
  have := hx k h2
  rw [beside_sum, R.row0 h1 h2] at this
  grind
end L2.S.W

set_option linter.all false
namespace L2.S.W
open L2.S
theorem ne_self {a b : Int} : pEq true (.tup [.int a, .int b]) (.tup [.int a, .int b]) = some (.d (.bl false)) := by
  rw [eq_P rfl rfl rfl rfl]
  simp [eqD, eqDs]
theorem eq_pd {neg : Bool} {a b : Rat} : pEq neg (pD a) (pD b) = some (.d (.bl (if neg then !decide (a = b) else decide (a = b)))) := by
  rw [eq_P rfl rfl rfl rfl]
  have e : eqD (pD a) (pD b) = decide (a = b) := by
    rw [← rat_eq_b]
    simp [eqD, eqDs]
  rw [e]
theorem prs_self : ∀ {ds : List D}, (∀ d ∈ ds, ∃ a b : Int, d = .tup [.int a, .int b]) → eqDs ds ds = true ∧ noMixs ds ds = true
  | [], _ => ⟨by simp [eqDs], by simp [noMixs]⟩
  | d :: ds, h => by
    obtain ⟨a, b, rfl⟩ := h d (by simp)
    obtain ⟨h1, h2⟩ := prs_self (ds := ds) fun z hz => h z (List.mem_cons_of_mem _ hz)
    refine ⟨?_, ?_⟩
    · rw [eqDs, h1]
      simp [eqD, eqDs]
    · rw [noMixs, h2]
      rfl
theorem prs_plain {k : Nat} {ds : List D} (h : ∀ d ∈ ds, ∃ a b : Int, d = .tup [.int a, .int b]) : plains (k + 1) ds = true := plains_of fun z hz => by
  obtain ⟨a, b, rfl⟩ := h z hz
  rfl
theorem eq_prs {neg : Bool} {ds : List D} (h : ∀ d ∈ ds, ∃ a b : Int, d = .tup [.int a, .int b]) : pEq neg (.tup ds) (.tup ds) = some (.d (.bl (!neg))) := by
  have p : plain 60 (.tup ds) = true := prs_plain h
  rw [eq_P rfl p p (prs_self h).2]
  have e : eqD (.tup ds) (.tup ds) = true := (prs_self h).1
  rw [e]
  cases neg <;> rfl
theorem row_prs {w : Nat} {u : Nat → Rat} : ∀ d ∈ vec w (fun j => pD (u j)), ∃ a b : Int, d = .tup [.int a, .int b] := fun d hd => by
  obtain ⟨i, _, rfl⟩ := List.mem_map.mp hd
  exact ⟨_, _, rfl⟩
theorem map_at {l : List Nat} {g : Nat → D} {i : Nat} (h : i < l.length) : atI (l.map g) (i : Int) = some (g (l.getD i 0)) := by
  rw [Zjh, List.getElem?_map, List.getElem?_eq_getElem h, List.getD_eq_getElem?_getD, List.getElem?_eq_getElem h]
  rfl
theorem map_vec {l : List Nat} {g : Nat → D} : l.map g = vec l.length fun i => g (l.getD i 0) := by
  refine vec_of (by simp) fun i hi => ?_
  rw [List.getElem?_map, List.getElem?_eq_getElem hi, List.getD_eq_getElem?_getD, List.getElem?_eq_getElem hi]
  rfl
theorem lc_mapZ {α : Type} {l : List α} {g : α → D} {vs : List Nat} {h : D → Env' → Option Env'} {c : Env' → RT} {f : Env' → R} {e e0 : Env'} {Q : R → Prop} (F : α → D) (hw : canWipe e vs = true) (hz : wipeE e vs = e0) (hl : l.length ≤ 16777216) (hi : ∀ x ∈ l, lcItem vs h c f (g x) e0 (fun y => y = some (F x))) (hq : Q (.ok (.o (.l (l.map F))) e)) : lcK vs h c f (l.map g) e Q :=
  lc_map F hw hl (fun x hx => by rw [hz]; exact hi x hx) hq
theorem lc_rngF {vs : List Nat} {h : D → Env' → Option Env'} {c : Env' → RT} {f : Env' → R} {e e0 : Env'} {Q : R → Prop} {n : Nat} (p : Nat → Bool) (hw : canWipe e vs = true) (hz : wipeE e vs = e0) (hn : n ≤ 16777216) (hi : ∀ i, i < n → lcItem vs h c f (.int (i : Int)) e0 (fun y => y = if p i then some (.int (i : Int)) else none)) (hq : Q (.ok (.o (.l (((List.range n).filter p).map fun (i : Nat) => D.int (i : Int)))) e)) : lcK vs h c f (rngD 0 (n : Int)) e Q := by
  rw [rng_vec]
  unfold vec
  exact lc_filter (l := List.range n) (g := fun (i : Nat) => D.int (i : Int)) p (fun (i : Nat) => D.int (i : Int)) hw (by simpa using hn) (fun i hi' => by rw [hz]; exact hi i (List.mem_range.mp hi')) hq
theorem Fr1.wipe {x : SV} (h : Fr1 x) : isOwn x = false := by rcases h with rfl | ⟨d, rfl⟩ <;> rfl
theorem frees_len {pv : List Nat} {n : Nat} : (frees pv n).length ≤ n := by
  have : (frees pv n).length ≤ (List.range n).length := List.length_filter_le ..
  rwa [List.length_range] at this
theorem kvec_sz {s : Tab} {f M : Nat} (hM : 0 < M) : ∀ {m : Nat}, (∀ i, i < m → Sz M (s.t i f)) → ∀ j, Sz M (kvec s f m j)
  | 0, _, j => by
    show Sz M (if j = f then 1 else 0)
    split
    · exact Sz.one.mono hM
    · exact Sz.zero.mono hM
  | m + 1, h, j => by
    show Sz M (if j = s.pv.getD m 0 then - s.t m f else kvec s f m j)
    split
    · exact (h m (by omega)).neg
    · exact kvec_sz hM (fun i hi => h i (by omega)) j
theorem svec_sz {s : Tab} {v M : Nat} (hM : 0 < M) : ∀ {m : Nat}, (∀ i, i < m → Sz M (s.t i v)) → ∀ j, Sz M (svec s v m j)
  | 0, _, j => Sz.zero.mono hM
  | m + 1, h, j => by
    show Sz M (if j = s.pv.getD m 0 then s.t m v else svec s v m j)
    split
    · exact h m (by omega)
    · exact svec_sz hM (fun i hi => h i (by omega)) j
theorem canWipe_1 {e : Env'} {v : Nat} {x : SV} (h : e[v]? = some x) (hx : Fr1 x) : canWipe e [v] = true := by
  unfold canWipe
  simp [h, Fr1.wipe hx]
end L2.S.W

set_option Elab.async false
set_option linter.all false
set_option maxRecDepth 100000
set_option maxHeartbeats 8000000
namespace L2.S.W
open PySem PySem.Spec PyProof.Rows L2 L2.S
noncomputable section
abbrev PP : Program := PySem.Challenge.pw_seriesroads_k05_kernel_vectors
def top (i : Nat) : Stmt := PP.main.body.getD i (.Pass ⟨0, 0, 0, 0⟩)
abbrev s_Ratio_init : Stmt := inClass (top 8) 0
def N_Ratio_init : List Str := ["self", "n", "d", "common"]
abbrev s_unit : Stmt := top 11
def N_unit : List Str := ["size", "at", "k"]
abbrev s_Ratio_sub : Stmt := inClass (top 8) 2
def N_Ratio_sub : List Str := ["self", "other"]
abbrev s_Ratio_mul : Stmt := inClass (top 8) 3
def N_Ratio_mul : List Str := ["self", "other"]
abbrev s_Ratio_inverse : Stmt := inClass (top 8) 7
def N_Ratio_inverse : List Str := ["self"]
abbrev s_eliminate : Stmt := top 12
def N_eliminate : List Str := ["table", "width", "pivots", "column", "done", "chosen", "at", "row", "inverse", "item", "k", "factor", "x", "y"]
abbrev s_law_cell : Stmt := top 15
def N_law_cell : List Str := ["script", "k"]
abbrev s_law_draws : Stmt := top 16
def N_law_draws : List Str := ["script", "at", "count", "bound", "cell", "out", "k", "number", "mixed"]
abbrev s_law_gcd : Stmt := top 17
def N_law_gcd : List Str := ["a", "b", "one", "two", "rest"]
abbrev s_law_rat : Stmt := top 18
def N_law_rat : List Str := ["n", "d", "common"]
abbrev s_law_add : Stmt := top 19
def N_law_add : List Str := ["a", "b"]
abbrev s_law_mul : Stmt := top 20
def N_law_mul : List Str := ["a", "b"]
abbrev s_law_is_integer : Stmt := top 21
def N_law_is_integer : List Str := ["value"]
abbrev s_law_pair : Stmt := top 22
def N_law_pair : List Str := ["value"]
abbrev s_law_pairs : Stmt := top 23
def N_law_pairs : List Str := ["values", "size", "out", "value"]
abbrev s_law_ratios : Stmt := top 24
def N_law_ratios : List Str := ["row", "q"]
abbrev s_law_small : Stmt := top 25
def N_law_small : List Str := ["n", "d"]
abbrev s_law_matrix : Stmt := top 26
def N_law_matrix : List Str := ["script", "at", "rows", "width", "row", "out", "k", "line", "j", "n", "d"]
abbrev s_law_dot : Stmt := top 27
def N_law_dot : List Str := ["a", "b", "total", "k"]
abbrev s_law_combine : Stmt := top 28
def N_law_combine : List Str := ["rows", "width", "y", "out", "k", "j"]
abbrev s_Matrix_init : Stmt := inClass (top 13) 0
def N_Matrix_init : List Str := ["self", "rows", "width", "row"]
abbrev s_law_to_matrix : Stmt := top 29
def N_law_to_matrix : List Str := ["rows", "width", "row"]
abbrev s_Matrix_reduced : Stmt := inClass (top 13) 12
def N_Matrix_reduced : List Str := ["self", "table", "row", "pivots"]
abbrev s_Ratio_neg : Stmt := inClass (top 8) 4
def N_Ratio_neg : List Str := ["self"]
abbrev s_Matrix_kernel : Stmt := inClass (top 13) 14
def N_Matrix_kernel : List Str := ["self", "reduced", "pivots", "out", "free", "vector", "row", "pivot"]
abbrev s_Ratio_over : Stmt := inClass (top 8) 8
def N_Ratio_over : List Str := ["self", "other"]
abbrev s_Matrix_solve : Stmt := inClass (top 13) 15
def N_Matrix_solve : List Str := ["self", "right", "size", "table", "k", "pivots", "row", "item", "x", "_", "pivot"]
abbrev s_law : Stmt := top 30
def N_law : List Str := ["script", "row", "height", "width", "rows", "m", "told", "pivots", "free", "k", "vectors", "v", "at", "line", "items", "drawn", "word", "other", "gap"]
def g_Ratio_init : Env' → RS := sSeq (sIf (cTr (cOp (pEq false) (cV 2) (cK (.int 0)))) (sRaise 1) (sNx)) (
sSeq (sSet 3 (cIf (cTr (cOp (pGt) (cV 2) (cK (.int 0)))) (cBi bGcd (cAd (cV 1) (cAd (cV 2) (cA0)))) (cNeg (cBi bGcd (cAd (cV 1) (cAd (cV 2) (cA0))))))) (
sSeq (sFld0 0 0 0 (cOp pDivG (cV 1) (cV 3))) (
sFld0 0 0 1 (cOp pDivG (cV 2) (cV 3)))))
def φ_Ratio_init : Fn := fnF g_Ratio_init 4 3
def g_unit : Env' → RS := sRet (cLc (iR1 (cAd (cV 0) (cA0))) [2] (gN 2) (cYes) (cMake 0 2 φ_Ratio_init [(.int 1)] (cAd (cBi bInt (cAd (cOp (pEq false) (cV 2) (cV 1)) (cA0))) (cA0))))
def φ_unit : Fn := fnF g_unit 3 2
def g_Ratio_sub : Env' → RS := sRet (cMake 0 2 φ_Ratio_init [] (cAd (cOp pSubI (cOp pMul (cFld [(0, 0)] (cV 0)) (cFld [(0, 1)] (cV 1))) (cOp pMul (cFld [(0, 0)] (cV 1)) (cFld [(0, 1)] (cV 0)))) (cAd (cOp pMul (cFld [(0, 1)] (cV 0)) (cFld [(0, 1)] (cV 1))) (cA0))))
def φ_Ratio_sub : Fn := fnF g_Ratio_sub 2 2
def g_Ratio_mul : Env' → RS := sRet (cMake 0 2 φ_Ratio_init [] (cAd (cOp pMul (cFld [(0, 0)] (cV 0)) (cFld [(0, 0)] (cV 1))) (cAd (cOp pMul (cFld [(0, 1)] (cV 0)) (cFld [(0, 1)] (cV 1))) (cA0))))
def φ_Ratio_mul : Fn := fnF g_Ratio_mul 2 2
def g_Ratio_inverse : Env' → RS := sRet (cMake 0 2 φ_Ratio_init [] (cAd (cFld [(0, 1)] (cV 0)) (cAd (cFld [(0, 0)] (cV 0)) (cA0))))
def φ_Ratio_inverse : Fn := fnF g_Ratio_inverse 1 1
def g_eliminate : Env' → RS := sSeq (sSetO 2 (cLst (cA0))) (
sSeq (sFor (iR1 (cAd (cV 1) (cA0))) (gN 3) (sSeq (sSet 4 (cLenO 2)) (
sSeq (sSet 5 (cLc (iR2 (cAd (cV 4) (cAd (cLenO 0) (cA0)))) [6] (gN 6) (cTr (cOp (pEq true) (cFld [(0, 0)] (cIx (cIxO 0 (cV 6)) (cV 3))) (cK (.int 0)))) (cV 6))) (
sSeq (sIf (cTr (cOp (pEq false) (cBi bLen (cAd (cV 5) (cA0))) (cK (.int 0)))) (sCt) (sNx)) (
sSeq (sSet 7 (cIxO 0 (cIx (cV 5) (cK (.int 0))))) (
sSeq (sSub 0 (cIxO 0 (cV 4)) (cIx (cV 5) (cK (.int 0)))) (
sSeq (sSet 8 (cMeth 0 φ_Ratio_inverse [] (cIx (cV 7) (cV 3)) cA0)) (
sSeq (sSet 7 (cLc (iD (cV 7)) [9] (gN 9) (cYes) (cIf (cTr (cOp (pEq false) (cFld [(0, 0)] (cV 9)) (cK (.int 0)))) (cV 9) (two (pOwn ((0, φ_Ratio_mul) :: []) pMul) (cV 8) (cV 9))))) (
sSeq (sSub 0 (cV 7) (cV 4)) (
sSeq (sFor (iR1 (cAd (cLenO 0) (cA0))) (gN 10) (sSeq (sSet 11 (cIx (cIxO 0 (cV 10)) (cV 3))) (
sIf (cAndT (cTr (cOp (pEq true) (cV 10) (cV 4))) (cTr (cOp (pEq true) (cFld [(0, 0)] (cV 11)) (cK (.int 0))))) (sSub 0 (cLc (iZp (cAd (cIxO 0 (cV 10)) (cAd (cV 7) (cA0)))) [12, 13] (gT 2 (gC (gN 12) (gC (gN 13) (g0)))) (cYes) (cIf (cTr (cOp (pEq false) (cFld [(0, 0)] (cV 13)) (cK (.int 0)))) (cV 12) (two (pOwn ((0, φ_Ratio_sub) :: []) pSubI) (cV 12) (two (pOwn ((0, φ_Ratio_mul) :: []) pMul) (cV 11) (cV 13))))) (cV 10)) (sNx)))) (
sDrop (cApp 2 (cV 3))))))))))))) (
sRetO 2))
def φ_eliminate : Fn := fnF g_eliminate 14 2
def g_law_cell : Env' → RS := sSeq (sIf (cTr (cOp (pLt) (cV 1) (cBi bLen (cAd (cV 0) (cA0))))) (sRet (cIx (cV 0) (cV 1))) (sNx)) (
sRet (cK (.int 0)))
def φ_law_cell : Fn := fnF g_law_cell 2 2
def g_law_draws : Env' → RS := sSeq (sSet 4 (cCall φ_law_cell [] (cAd (cV 0) (cAd (cV 1) (cA0))))) (
sSeq (sSetO 5 (cLst (cA0))) (
sSeq (sIf (cTr (cOp (pGe) (cV 4) (cOp pPowI (cK (.int 10)) (cK (.int 18))))) (sSeq (sFor (iR1 (cAd (cV 2) (cA0))) (gN 6) (sSeq (sDrop (cApp 5 (cOp pModI (cBi bInt (cAd (cV 4) (cA0))) (cV 3)))) (
sSet 4 (cOp pDivG (cBi bInt (cAd (cV 4) (cA0))) (cV 3))))) (
sRetO 5)) (sNx)) (
sSeq (sSet 7 (cOp pAdd (cOp pAdd (cOp pModI (cBi bInt (cAd (cV 4) (cA0))) (cK (.int 2147483647))) (cOp pMul (cK (.int 3)) (cV 1))) (cK (.int 1)))) (
sSeq (sFor (iR1 (cAd (cV 2) (cA0))) (gN 6) (sSeq (sSet 7 (cOp pModI (cBi bInt (cAd (cOp pAdd (cOp pAdd (cOp pMul (cV 7) (cK (.int 48271))) (cOp pMul (cK (.int 11)) (cV 6))) (cV 1)) (cA0))) (cK (.int 2147483647)))) (
sSeq (sSet 8 (cOp pModI (cBi bInt (cAd (cOp pAdd (cOp pAdd (cOp pMul (cV 7) (cK (.int 69621))) (cOp pMul (cK (.int 5)) (cV 6))) (cK (.int 7))) (cA0))) (cK (.int 2147483629)))) (
sDrop (cApp 5 (cOp pModI (cBi bInt (cAd (cV 8) (cA0))) (cV 3))))))) (
sRetO 5)))))
def φ_law_draws : Fn := fnF g_law_draws 9 4
def g_law_gcd : Env' → RS := sSeq (sSet 2 (cBi bAbs (cAd (cV 0) (cA0)))) (
sSeq (sSet 3 (cBi bAbs (cAd (cV 1) (cA0)))) (
sSeq (sWh fuelE (cTr (cOp (pEq true) (cV 3) (cK (.int 0)))) (sSeq (sSet 4 (cOp pModI (cBi bInt (cAd (cV 2) (cA0))) (cV 3))) (
sSeq (sSet 2 (cV 3)) (
sSet 3 (cV 4))))) (
sRet (cV 2))))
def φ_law_gcd : Fn := fnF g_law_gcd 5 2
def g_law_rat : Env' → RS := sSeq (sSet 2 (cCall φ_law_gcd [] (cAd (cV 0) (cAd (cV 1) (cA0))))) (
sSeq (sIf (cTr (cOp (pLt) (cV 1) (cK (.int 0)))) (sSet 2 (cNeg (cV 2))) (sNx)) (
sRet (cTup (cAd (cOp pDivG (cV 0) (cV 2)) (cAd (cOp pDivG (cV 1) (cV 2)) (cA0))))))
def φ_law_rat : Fn := fnF g_law_rat 3 2
def g_law_add : Env' → RS := sRet (cCall φ_law_rat [] (cAd (cOp pAdd (cOp pMul (cIx (cV 0) (cK (.int 0))) (cIx (cV 1) (cK (.int 1)))) (cOp pMul (cIx (cV 1) (cK (.int 0))) (cIx (cV 0) (cK (.int 1))))) (cAd (cOp pMul (cIx (cV 0) (cK (.int 1))) (cIx (cV 1) (cK (.int 1)))) (cA0))))
def φ_law_add : Fn := fnF g_law_add 2 2
def g_law_mul : Env' → RS := sRet (cCall φ_law_rat [] (cAd (cOp pMul (cIx (cV 0) (cK (.int 0))) (cIx (cV 1) (cK (.int 0)))) (cAd (cOp pMul (cIx (cV 0) (cK (.int 1))) (cIx (cV 1) (cK (.int 1)))) (cA0))))
def φ_law_mul : Fn := fnF g_law_mul 2 2
def g_law_is_integer : Env' → RS := sRet (cAnd (cIsi [(0, false), (1, true), (2, true), (3, false), (4, false), (5, false), (10 + 0, false), (10 + 1, false)] (cV 0)) (cNot (cIsi [(0, false), (1, true), (2, false), (3, false), (4, false), (5, false), (10 + 0, false), (10 + 1, false)] (cV 0))))
def φ_law_is_integer : Fn := fnF g_law_is_integer 1 1
def g_law_pair : Env' → RS := sSeq (sIf (cOrT (cNotT (cTr (cIsi [(0, false), (1, false), (2, false), (3, false), (4, false), (5, false), (10 + 0, true), (10 + 1, false)] (cV 0)))) (cOrT (cNotT (cTr (cCall φ_law_is_integer [] (cAd (cFld [(0, 0)] (cV 0)) (cA0))))) (cNotT (cTr (cCall φ_law_is_integer [] (cAd (cFld [(0, 1)] (cV 0)) (cA0))))))) (sRet (cK .non)) (sNx)) (
sSeq (sIf (cOrT (cTr (cOp (pLt) (cFld [(0, 1)] (cV 0)) (cK (.int 1)))) (cTr (cOp (pEq true) (cCall φ_law_gcd [] (cAd (cFld [(0, 0)] (cV 0)) (cAd (cFld [(0, 1)] (cV 0)) (cA0)))) (cK (.int 1))))) (sRet (cK .non)) (sNx)) (
sRet (cTup (cAd (cFld [(0, 0)] (cV 0)) (cAd (cFld [(0, 1)] (cV 0)) (cA0))))))
def φ_law_pair : Fn := fnF g_law_pair 1 1
def g_law_pairs : Env' → RS := sSeq (sIf (cOrT (cNotT (cTr (cIsi [(0, false), (1, false), (2, false), (3, false), (4, true), (5, false), (10 + 0, false), (10 + 1, false)] (cV 0)))) (cTr (cOp (pEq true) (cBi bLen (cAd (cV 0) (cA0))) (cV 1)))) (sRet (cK .non)) (sNx)) (
sSeq (sSet 2 (cLc (iD (cV 0)) [3] (gN 3) (cYes) (cCall φ_law_pair [] (cAd (cV 3) (cA0))))) (
sRet (cIf (cTr (cOp (pIn) (cK .non) (cV 2))) (cK .non) (cBi bTup (cAd (cV 2) (cA0))))))
def φ_law_pairs : Fn := fnF g_law_pairs 4 2
def g_law_ratios : Env' → RS := sRet (cBi bTup (cAd (cLc (iD (cV 0)) [1] (gN 1) (cYes) (cMake 0 2 φ_Ratio_init [] (cAd (cIx (cV 1) (cK (.int 0))) (cAd (cIx (cV 1) (cK (.int 1))) (cA0))))) (cA0)))
def φ_law_ratios : Fn := fnF g_law_ratios 2 1
def g_law_small : Env' → RS := sRet (cCall φ_law_rat [] (cAd (cOp pSubI (cOp pModI (cV 0) (cK (.int 19))) (cK (.int 9))) (cAd (cOp pAdd (cOp pModI (cV 1) (cK (.int 5))) (cK (.int 1))) (cA0))))
def φ_law_small : Fn := fnF g_law_small 2 2
def g_law_matrix : Env' → RS := sSeq (sSet 4 (cCall φ_law_draws [] (cAd (cV 0) (cAd (cV 1) (cAd (cOp pAdd (cOp pMul (cOp pMul (cK (.int 2)) (cV 2)) (cV 3)) (cK (.int 2))) (cAd (cK (.int 95)) (cA0))))))) (
sSeq (sSetO 5 (cLst (cA0))) (
sSeq (sFor (iR1 (cAd (cV 2) (cA0))) (gN 6) (sSeq (sSetO 7 (cLst (cA0))) (
sSeq (sFor (iR1 (cAd (cV 3) (cA0))) (gN 8) (sSeq (sSet 9 (cIx (cV 4) (cOp pAdd (cK (.int 2)) (cOp pMul (cK (.int 2)) (cOp pAdd (cOp pMul (cV 6) (cV 3)) (cV 8)))))) (
sSeq (sSet 10 (cIx (cV 4) (cOp pAdd (cK (.int 3)) (cOp pMul (cK (.int 2)) (cOp pAdd (cOp pMul (cV 6) (cV 3)) (cV 8)))))) (
sSeq (sIf (cTr (cOp (pEq false) (cOp pModI (cOp pAdd (cV 9) (cIx (cV 4) (cK (.int 0)))) (cK (.int 3))) (cK (.int 0)))) (sSet 9 (cK (.int 9))) (sNx)) (
sDrop (cApp 7 (cCall φ_law_small [] (cAd (cV 9) (cAd (cV 10) (cA0)))))))))) (
sDrop (cApp 5 (cBi bTup (cAd (cV 7) (cA0)))))))) (
sSeq (sIf (cAndT (cTr (cOp (pGt) (cV 2) (cK (.int 1)))) (cTr (cOp (pEq false) (cOp pModI (cIx (cV 4) (cK (.int 1))) (cK (.int 3))) (cK (.int 0))))) (sSub 5 (cIxO 5 (cK (.int 0))) (cOp pSubI (cV 2) (cK (.int 1)))) (sNx)) (
sRet (cBi bTup (cAd (cV 5) (cA0)))))))
def φ_law_matrix : Fn := fnF g_law_matrix 11 4
def g_law_dot : Env' → RS := sSeq (sSet 2 (cTup (cAd (cK (.int 0)) (cAd (cK (.int 1)) (cA0))))) (
sSeq (sFor (iR1 (cAd (cBi bLen (cAd (cV 0) (cA0))) (cA0))) (gN 3) (sSet 2 (cCall φ_law_add [] (cAd (cV 2) (cAd (cCall φ_law_mul [] (cAd (cIx (cV 0) (cV 3)) (cAd (cIx (cV 1) (cV 3)) (cA0)))) (cA0)))))) (
sRet (cV 2)))
def φ_law_dot : Fn := fnF g_law_dot 4 2
def g_law_combine : Env' → RS := sSeq (sSet 3 (cLc (iR1 (cAd (cV 1) (cA0))) [4] (gN 4) (cYes) (cTup (cAd (cK (.int 0)) (cAd (cK (.int 1)) (cA0)))))) (
sSeq (sFor (iR1 (cAd (cBi bLen (cAd (cV 0) (cA0))) (cA0))) (gN 4) (sSet 3 (cLc (iR1 (cAd (cV 1) (cA0))) [5] (gN 5) (cYes) (cCall φ_law_add [] (cAd (cIx (cV 3) (cV 5)) (cAd (cCall φ_law_mul [] (cAd (cIx (cV 2) (cV 4)) (cAd (cIx (cIx (cV 0) (cV 4)) (cV 5)) (cA0)))) (cA0))))))) (
sRet (cBi bTup (cAd (cV 3) (cA0)))))
def φ_law_combine : Fn := fnF g_law_combine 6 3
def g_Matrix_init : Env' → RS := sSeq (sFld0 0 1 0 (cBi bTup (cAd (cLc (iD (cV 1)) [3] (gN 3) (cYes) (cBi bTup (cAd (cV 3) (cA0)))) (cA0)))) (
sFld0 0 1 1 (cV 2))
def φ_Matrix_init : Fn := fnF g_Matrix_init 4 3
def g_law_to_matrix : Env' → RS := sRet (cMake 1 2 φ_Matrix_init [] (cAd (cLc (iD (cV 0)) [2] (gN 2) (cYes) (cCall φ_law_ratios [] (cAd (cV 2) (cA0)))) (cAd (cV 1) (cA0))))
def φ_law_to_matrix : Fn := fnF g_law_to_matrix 3 2
def g_Matrix_reduced : Env' → RS := sSeq (sSetO 1 (cLc (iD (cFld [(1, 0)] (cV 0))) [2] (gN 2) (cYes) (cBi bLst (cAd (cV 2) (cA0))))) (
sSeq (sSet 3 (cCall φ_eliminate [] (cAs 1 (cAd (cFld [(1, 1)] (cV 0)) (cA0))))) (
sRet (cTup (cAd (cMake 1 2 φ_Matrix_init [] (cAd (cSlO 1 (o0) (oI (cBi bLen (cAd (cV 3) (cA0))))) (cAd (cFld [(1, 1)] (cV 0)) (cA0)))) (cAd (cBi bTup (cAd (cV 3) (cA0))) (cA0))))))
def φ_Matrix_reduced : Fn := fnF g_Matrix_reduced 4 1
def g_Ratio_neg : Env' → RS := sRet (cMake 0 2 φ_Ratio_init [] (cAd (cNeg (cFld [(0, 0)] (cV 0))) (cAd (cFld [(0, 1)] (cV 0)) (cA0))))
def φ_Ratio_neg : Fn := fnF g_Ratio_neg 1 1
def g_Matrix_kernel : Env' → RS := sSeq (sAsg (cMeth 1 φ_Matrix_reduced [] (cV 0) cA0) (gT 2 (gC (gN 1) (gC (gN 2) (g0))))) (
sSeq (sSetO 3 (cLst (cA0))) (
sSeq (sFor (iR1 (cAd (cFld [(1, 1)] (cV 0)) (cA0))) (gN 4) (sSeq (sIf (cTr (cOp (pIn) (cV 4) (cV 2))) (sCt) (sNx)) (
sSeq (sSetO 5 (cCall φ_unit [] (cAd (cFld [(1, 1)] (cV 0)) (cAd (cV 4) (cA0))))) (
sSeq (sFor (iZp (cAd (cFld [(1, 0)] (cV 1)) (cAd (cV 2) (cA0)))) (gT 2 (gC (gN 6) (gC (gN 7) (g0)))) (sSub 5 (cNegM ((0, φ_Ratio_neg) :: []) (cIx (cV 6) (cV 4))) (cV 7))) (
sDrop (cApp 3 (cBi bTup (cAd (cV 5) (cA0))))))))) (
sRet (cBi bTup (cAd (cV 3) (cA0))))))
def φ_Matrix_kernel : Fn := fnF g_Matrix_kernel 8 1
def g_Ratio_over : Env' → RS := sRet (cMake 0 2 φ_Ratio_init [] (cAd (cOp pMul (cFld [(0, 0)] (cV 0)) (cFld [(0, 1)] (cV 1))) (cAd (cOp pMul (cFld [(0, 1)] (cV 0)) (cFld [(0, 0)] (cV 1))) (cA0))))
def φ_Ratio_over : Fn := fnF g_Ratio_over 2 2
def g_Matrix_solve : Env' → RS := sSeq (sSet 2 (cBi bLen (cAd (cFld [(1, 0)] (cV 0)) (cA0)))) (
sSeq (sSetO 3 (cLc (iR1 (cAd (cV 2) (cA0))) [4] (gN 4) (cYes) (cOp pAdd (cOp pAdd (cBi bLst (cAd (cIx (cFld [(1, 0)] (cV 0)) (cV 4)) (cA0))) (cLst (cAd (cIx (cV 1) (cV 4)) (cA0)))) (cCall φ_unit [] (cAd (cV 2) (cAd (cV 4) (cA0))))))) (
sSeq (sSet 5 (cCall φ_eliminate [] (cAs 3 (cAd (cFld [(1, 1)] (cV 0)) (cA0))))) (
sSeq (sFor (iD (cSlO 3 (oI (cBi bLen (cAd (cV 5) (cA0)))) (o0))) (gN 6) (sIf (cTr (cOp (pEq true) (cFld [(0, 0)] (cIx (cV 6) (cFld [(1, 1)] (cV 0)))) (cK (.int 0)))) (sRet (cTup (cAd (cK (.str [110, 111, 110, 101])) (cAd (cBi bTup (cAd (cLc (iD (cSl (cV 6) (oI (cOp pAdd (cFld [(1, 1)] (cV 0)) (cK (.int 1)))) (o0))) [7] (gN 7) (cYes) (cMeth 0 φ_Ratio_over [] (cV 7) (cAd (cIx (cV 6) (cFld [(1, 1)] (cV 0))) (cA0)))) (cA0))) (cA0))))) (sNx))) (
sSeq (sSetO 8 (cLc (iR1 (cAd (cFld [(1, 1)] (cV 0)) (cA0))) [9] (gN 9) (cYes) (cMake 0 2 φ_Ratio_init [(.int 1)] (cAd (cK (.int 0)) (cA0))))) (
sSeq (sFor (iZp (cAd (cV 3) (cAd (cV 5) (cA0)))) (gT 2 (gC (gN 6) (gC (gN 10) (g0)))) (sSub 8 (cIx (cV 6) (cFld [(1, 1)] (cV 0))) (cV 10))) (
sRet (cTup (cAd (cK (.str [115, 111, 108, 117, 116, 105, 111, 110])) (cAd (cBi bTup (cAd (cV 8) (cA0))) (cA0))))))))))
def φ_Matrix_solve : Fn := fnF g_Matrix_solve 11 2
def g_law : Env' → RS := sSeq (sSet 1 (cCall φ_law_draws [] (cAd (cV 0) (cAd (cK (.int 0)) (cAd (cK (.int 4)) (cAd (cK (.int 36)) (cA0))))))) (
sSeq (sSet 2 (cOp pModI (cIx (cV 1) (cK (.int 0))) (cK (.int 5)))) (
sSeq (sSet 3 (cOp pModI (cOp pDivG (cIx (cV 1) (cK (.int 0))) (cK (.int 5))) (cK (.int 5)))) (
sSeq (sSet 4 (cCall φ_law_matrix [] (cAd (cV 0) (cAd (cK (.int 1)) (cAd (cV 2) (cAd (cV 3) (cA0))))))) (
sSeq (sSet 5 (cCall φ_law_to_matrix [] (cAd (cV 4) (cAd (cV 3) (cA0))))) (
sSeq (sSet 6 (cMeth 1 φ_Matrix_kernel [] (cV 5) cA0)) (
sSeq (sSet 7 (cIx (cMeth 1 φ_Matrix_reduced [] (cV 5) cA0) (cK (.int 1)))) (
sSeq (sSet 8 (cLc (iR1 (cAd (cV 3) (cA0))) [9] (gN 9) (cTr (cOp (pNin) (cV 9) (cV 7))) (cV 9))) (
sSeq (sIf (cOrT (cNotT (cTr (cIsi [(0, false), (1, false), (2, false), (3, false), (4, true), (5, false), (10 + 0, false), (10 + 1, false)] (cV 6)))) (cTr (cOp (pEq true) (cBi bLen (cAd (cV 6) (cA0))) (cBi bLen (cAd (cV 8) (cA0)))))) (sRet (cK (.bl false))) (sNx)) (
sSeq (sSet 10 (cLc (iD (cV 6)) [11] (gN 11) (cYes) (cCall φ_law_pairs [] (cAd (cV 11) (cAd (cV 3) (cA0)))))) (
sSeq (sFor (iR1 (cAd (cBi bLen (cAd (cV 8) (cA0))) (cA0))) (gN 12) (sSeq (sIf (cTr (cOp (pIsN) (cIx (cV 10) (cV 12)) (cK .non))) (sRet (cK (.bl false))) (sNx)) (
sSeq (sFor (iR1 (cAd (cBi bLen (cAd (cV 8) (cA0))) (cA0))) (gN 9) (sIf (cTr (cOp (pEq true) (cIx (cIx (cV 10) (cV 12)) (cIx (cV 8) (cV 9))) (cTup (cAd (cBi bInt (cAd (cOp (pEq false) (cV 9) (cV 12)) (cA0))) (cAd (cK (.int 1)) (cA0)))))) (sRet (cK (.bl false))) (sNx))) (
sFor (iD (cV 4)) (gN 13) (sIf (cTr (cOp (pEq true) (cCall φ_law_dot [] (cAd (cV 13) (cAd (cIx (cV 10) (cV 12)) (cA0)))) (cTup (cAd (cK (.int 0)) (cAd (cK (.int 1)) (cA0)))))) (sRet (cK (.bl false))) (sNx)))))) (
sSeq (sSet 14 (cCall φ_law_draws [] (cAd (cV 0) (cAd (cK (.int 2)) (cAd (cOp pMul (cK (.int 2)) (cV 3)) (cAd (cK (.int 95)) (cA0))))))) (
sSeq (sSet 15 (cLc (iR1 (cAd (cV 3) (cA0))) [9] (gN 9) (cYes) (cCall φ_law_small [] (cAd (cIx (cV 14) (cOp pMul (cK (.int 2)) (cV 9))) (cAd (cIx (cV 14) (cOp pAdd (cOp pMul (cK (.int 2)) (cV 9)) (cK (.int 1)))) (cA0)))))) (
sSeq (sAsg (cMeth 1 φ_Matrix_solve [] (cV 5) (cAd (cCall φ_law_ratios [] (cAd (cLc (iD (cV 4)) [13] (gN 13) (cYes) (cCall φ_law_dot [] (cAd (cV 13) (cAd (cV 15) (cA0))))) (cA0))) (cA0))) (gT 2 (gC (gN 16) (gC (gN 17) (g0))))) (
sSeq (sSet 17 (cCall φ_law_pairs [] (cAd (cV 17) (cAd (cV 3) (cA0))))) (
sSeq (sIf (cOrT (cTr (cOp (pEq true) (cV 16) (cK (.str [115, 111, 108, 117, 116, 105, 111, 110])))) (cTr (cOp (pIsN) (cV 17) (cK .non)))) (sRet (cK (.bl false))) (sNx)) (
sSeq (sSet 18 (cBi bTup (cAd (cLc (iR1 (cAd (cV 3) (cA0))) [9] (gN 9) (cYes) (cCall φ_law_add [] (cAd (cIx (cV 15) (cV 9)) (cAd (cTup (cAd (cNeg (cIx (cIx (cV 17) (cV 9)) (cK (.int 0)))) (cAd (cIx (cIx (cV 17) (cV 9)) (cK (.int 1))) (cA0)))) (cA0))))) (cA0)))) (
sRet (cOp (pEq false) (cCall φ_law_combine [] (cAd (cV 10) (cAd (cV 3) (cAd (cLc (iD (cV 8)) [9] (gN 9) (cYes) (cIx (cV 18) (cV 9))) (cA0))))) (cV 18)))))))))))))))))))
def φ_law : Fn := fnF g_law 19 1
theorem run_Ratio_init {x0 x1 x2 : SV} {r : RF} (h : wp g_Ratio_init [x0, x1, x2, .un] (fun rs => endF [x0, x1, x2] rs = r)) : φ_Ratio_init [x0, x1, x2] = r := fn_at rfl rfl h
theorem runP_Ratio_init {x0 x1 x2 : SV} {P : RF → Prop} (h : wp g_Ratio_init [x0, x1, x2, .un] (fun rs => P (endF [x0, x1, x2] rs))) : P (φ_Ratio_init [x0, x1, x2]) := fn_atP rfl rfl h
theorem run_unit {x0 x1 : SV} {r : RF} (h : wp g_unit [x0, x1, .un] (fun rs => endF [x0, x1] rs = r)) : φ_unit [x0, x1] = r := fn_at rfl rfl h
theorem runP_unit {x0 x1 : SV} {P : RF → Prop} (h : wp g_unit [x0, x1, .un] (fun rs => P (endF [x0, x1] rs))) : P (φ_unit [x0, x1]) := fn_atP rfl rfl h
theorem run_Ratio_sub {x0 x1 : SV} {r : RF} (h : wp g_Ratio_sub [x0, x1] (fun rs => endF [x0, x1] rs = r)) : φ_Ratio_sub [x0, x1] = r := fn_at rfl rfl h
theorem runP_Ratio_sub {x0 x1 : SV} {P : RF → Prop} (h : wp g_Ratio_sub [x0, x1] (fun rs => P (endF [x0, x1] rs))) : P (φ_Ratio_sub [x0, x1]) := fn_atP rfl rfl h
theorem run_Ratio_mul {x0 x1 : SV} {r : RF} (h : wp g_Ratio_mul [x0, x1] (fun rs => endF [x0, x1] rs = r)) : φ_Ratio_mul [x0, x1] = r := fn_at rfl rfl h
theorem runP_Ratio_mul {x0 x1 : SV} {P : RF → Prop} (h : wp g_Ratio_mul [x0, x1] (fun rs => P (endF [x0, x1] rs))) : P (φ_Ratio_mul [x0, x1]) := fn_atP rfl rfl h
theorem run_Ratio_inverse {x0 : SV} {r : RF} (h : wp g_Ratio_inverse [x0] (fun rs => endF [x0] rs = r)) : φ_Ratio_inverse [x0] = r := fn_at rfl rfl h
theorem runP_Ratio_inverse {x0 : SV} {P : RF → Prop} (h : wp g_Ratio_inverse [x0] (fun rs => P (endF [x0] rs))) : P (φ_Ratio_inverse [x0]) := fn_atP rfl rfl h
theorem run_eliminate {x0 x1 : SV} {r : RF} (h : wp g_eliminate [x0, x1, .un, .un, .un, .un, .un, .un, .un, .un, .un, .un, .un, .un] (fun rs => endF [x0, x1] rs = r)) : φ_eliminate [x0, x1] = r := fn_at rfl rfl h
theorem runP_eliminate {x0 x1 : SV} {P : RF → Prop} (h : wp g_eliminate [x0, x1, .un, .un, .un, .un, .un, .un, .un, .un, .un, .un, .un, .un] (fun rs => P (endF [x0, x1] rs))) : P (φ_eliminate [x0, x1]) := fn_atP rfl rfl h
theorem run_law_cell {x0 x1 : SV} {r : RF} (h : wp g_law_cell [x0, x1] (fun rs => endF [x0, x1] rs = r)) : φ_law_cell [x0, x1] = r := fn_at rfl rfl h
theorem runP_law_cell {x0 x1 : SV} {P : RF → Prop} (h : wp g_law_cell [x0, x1] (fun rs => P (endF [x0, x1] rs))) : P (φ_law_cell [x0, x1]) := fn_atP rfl rfl h
theorem run_law_draws {x0 x1 x2 x3 : SV} {r : RF} (h : wp g_law_draws [x0, x1, x2, x3, .un, .un, .un, .un, .un] (fun rs => endF [x0, x1, x2, x3] rs = r)) : φ_law_draws [x0, x1, x2, x3] = r := fn_at rfl rfl h
theorem runP_law_draws {x0 x1 x2 x3 : SV} {P : RF → Prop} (h : wp g_law_draws [x0, x1, x2, x3, .un, .un, .un, .un, .un] (fun rs => P (endF [x0, x1, x2, x3] rs))) : P (φ_law_draws [x0, x1, x2, x3]) := fn_atP rfl rfl h
theorem run_law_gcd {x0 x1 : SV} {r : RF} (h : wp g_law_gcd [x0, x1, .un, .un, .un] (fun rs => endF [x0, x1] rs = r)) : φ_law_gcd [x0, x1] = r := fn_at rfl rfl h
theorem runP_law_gcd {x0 x1 : SV} {P : RF → Prop} (h : wp g_law_gcd [x0, x1, .un, .un, .un] (fun rs => P (endF [x0, x1] rs))) : P (φ_law_gcd [x0, x1]) := fn_atP rfl rfl h
theorem run_law_rat {x0 x1 : SV} {r : RF} (h : wp g_law_rat [x0, x1, .un] (fun rs => endF [x0, x1] rs = r)) : φ_law_rat [x0, x1] = r := fn_at rfl rfl h
theorem runP_law_rat {x0 x1 : SV} {P : RF → Prop} (h : wp g_law_rat [x0, x1, .un] (fun rs => P (endF [x0, x1] rs))) : P (φ_law_rat [x0, x1]) := fn_atP rfl rfl h
theorem run_law_add {x0 x1 : SV} {r : RF} (h : wp g_law_add [x0, x1] (fun rs => endF [x0, x1] rs = r)) : φ_law_add [x0, x1] = r := fn_at rfl rfl h
theorem runP_law_add {x0 x1 : SV} {P : RF → Prop} (h : wp g_law_add [x0, x1] (fun rs => P (endF [x0, x1] rs))) : P (φ_law_add [x0, x1]) := fn_atP rfl rfl h
theorem run_law_mul {x0 x1 : SV} {r : RF} (h : wp g_law_mul [x0, x1] (fun rs => endF [x0, x1] rs = r)) : φ_law_mul [x0, x1] = r := fn_at rfl rfl h
theorem runP_law_mul {x0 x1 : SV} {P : RF → Prop} (h : wp g_law_mul [x0, x1] (fun rs => P (endF [x0, x1] rs))) : P (φ_law_mul [x0, x1]) := fn_atP rfl rfl h
theorem run_law_is_integer {x0 : SV} {r : RF} (h : wp g_law_is_integer [x0] (fun rs => endF [x0] rs = r)) : φ_law_is_integer [x0] = r := fn_at rfl rfl h
theorem runP_law_is_integer {x0 : SV} {P : RF → Prop} (h : wp g_law_is_integer [x0] (fun rs => P (endF [x0] rs))) : P (φ_law_is_integer [x0]) := fn_atP rfl rfl h
theorem run_law_pair {x0 : SV} {r : RF} (h : wp g_law_pair [x0] (fun rs => endF [x0] rs = r)) : φ_law_pair [x0] = r := fn_at rfl rfl h
theorem runP_law_pair {x0 : SV} {P : RF → Prop} (h : wp g_law_pair [x0] (fun rs => P (endF [x0] rs))) : P (φ_law_pair [x0]) := fn_atP rfl rfl h
theorem run_law_pairs {x0 x1 : SV} {r : RF} (h : wp g_law_pairs [x0, x1, .un, .un] (fun rs => endF [x0, x1] rs = r)) : φ_law_pairs [x0, x1] = r := fn_at rfl rfl h
theorem runP_law_pairs {x0 x1 : SV} {P : RF → Prop} (h : wp g_law_pairs [x0, x1, .un, .un] (fun rs => P (endF [x0, x1] rs))) : P (φ_law_pairs [x0, x1]) := fn_atP rfl rfl h
theorem run_law_ratios {x0 : SV} {r : RF} (h : wp g_law_ratios [x0, .un] (fun rs => endF [x0] rs = r)) : φ_law_ratios [x0] = r := fn_at rfl rfl h
theorem runP_law_ratios {x0 : SV} {P : RF → Prop} (h : wp g_law_ratios [x0, .un] (fun rs => P (endF [x0] rs))) : P (φ_law_ratios [x0]) := fn_atP rfl rfl h
theorem run_law_small {x0 x1 : SV} {r : RF} (h : wp g_law_small [x0, x1] (fun rs => endF [x0, x1] rs = r)) : φ_law_small [x0, x1] = r := fn_at rfl rfl h
theorem runP_law_small {x0 x1 : SV} {P : RF → Prop} (h : wp g_law_small [x0, x1] (fun rs => P (endF [x0, x1] rs))) : P (φ_law_small [x0, x1]) := fn_atP rfl rfl h
theorem run_law_matrix {x0 x1 x2 x3 : SV} {r : RF} (h : wp g_law_matrix [x0, x1, x2, x3, .un, .un, .un, .un, .un, .un, .un] (fun rs => endF [x0, x1, x2, x3] rs = r)) : φ_law_matrix [x0, x1, x2, x3] = r := fn_at rfl rfl h
theorem runP_law_matrix {x0 x1 x2 x3 : SV} {P : RF → Prop} (h : wp g_law_matrix [x0, x1, x2, x3, .un, .un, .un, .un, .un, .un, .un] (fun rs => P (endF [x0, x1, x2, x3] rs))) : P (φ_law_matrix [x0, x1, x2, x3]) := fn_atP rfl rfl h
theorem run_law_dot {x0 x1 : SV} {r : RF} (h : wp g_law_dot [x0, x1, .un, .un] (fun rs => endF [x0, x1] rs = r)) : φ_law_dot [x0, x1] = r := fn_at rfl rfl h
theorem runP_law_dot {x0 x1 : SV} {P : RF → Prop} (h : wp g_law_dot [x0, x1, .un, .un] (fun rs => P (endF [x0, x1] rs))) : P (φ_law_dot [x0, x1]) := fn_atP rfl rfl h
theorem run_law_combine {x0 x1 x2 : SV} {r : RF} (h : wp g_law_combine [x0, x1, x2, .un, .un, .un] (fun rs => endF [x0, x1, x2] rs = r)) : φ_law_combine [x0, x1, x2] = r := fn_at rfl rfl h
theorem runP_law_combine {x0 x1 x2 : SV} {P : RF → Prop} (h : wp g_law_combine [x0, x1, x2, .un, .un, .un] (fun rs => P (endF [x0, x1, x2] rs))) : P (φ_law_combine [x0, x1, x2]) := fn_atP rfl rfl h
theorem run_Matrix_init {x0 x1 x2 : SV} {r : RF} (h : wp g_Matrix_init [x0, x1, x2, .un] (fun rs => endF [x0, x1, x2] rs = r)) : φ_Matrix_init [x0, x1, x2] = r := fn_at rfl rfl h
theorem runP_Matrix_init {x0 x1 x2 : SV} {P : RF → Prop} (h : wp g_Matrix_init [x0, x1, x2, .un] (fun rs => P (endF [x0, x1, x2] rs))) : P (φ_Matrix_init [x0, x1, x2]) := fn_atP rfl rfl h
theorem run_law_to_matrix {x0 x1 : SV} {r : RF} (h : wp g_law_to_matrix [x0, x1, .un] (fun rs => endF [x0, x1] rs = r)) : φ_law_to_matrix [x0, x1] = r := fn_at rfl rfl h
theorem runP_law_to_matrix {x0 x1 : SV} {P : RF → Prop} (h : wp g_law_to_matrix [x0, x1, .un] (fun rs => P (endF [x0, x1] rs))) : P (φ_law_to_matrix [x0, x1]) := fn_atP rfl rfl h
theorem run_Matrix_reduced {x0 : SV} {r : RF} (h : wp g_Matrix_reduced [x0, .un, .un, .un] (fun rs => endF [x0] rs = r)) : φ_Matrix_reduced [x0] = r := fn_at rfl rfl h
theorem runP_Matrix_reduced {x0 : SV} {P : RF → Prop} (h : wp g_Matrix_reduced [x0, .un, .un, .un] (fun rs => P (endF [x0] rs))) : P (φ_Matrix_reduced [x0]) := fn_atP rfl rfl h
theorem run_Ratio_neg {x0 : SV} {r : RF} (h : wp g_Ratio_neg [x0] (fun rs => endF [x0] rs = r)) : φ_Ratio_neg [x0] = r := fn_at rfl rfl h
theorem runP_Ratio_neg {x0 : SV} {P : RF → Prop} (h : wp g_Ratio_neg [x0] (fun rs => P (endF [x0] rs))) : P (φ_Ratio_neg [x0]) := fn_atP rfl rfl h
theorem run_Matrix_kernel {x0 : SV} {r : RF} (h : wp g_Matrix_kernel [x0, .un, .un, .un, .un, .un, .un, .un] (fun rs => endF [x0] rs = r)) : φ_Matrix_kernel [x0] = r := fn_at rfl rfl h
theorem runP_Matrix_kernel {x0 : SV} {P : RF → Prop} (h : wp g_Matrix_kernel [x0, .un, .un, .un, .un, .un, .un, .un] (fun rs => P (endF [x0] rs))) : P (φ_Matrix_kernel [x0]) := fn_atP rfl rfl h
theorem run_Ratio_over {x0 x1 : SV} {r : RF} (h : wp g_Ratio_over [x0, x1] (fun rs => endF [x0, x1] rs = r)) : φ_Ratio_over [x0, x1] = r := fn_at rfl rfl h
theorem runP_Ratio_over {x0 x1 : SV} {P : RF → Prop} (h : wp g_Ratio_over [x0, x1] (fun rs => P (endF [x0, x1] rs))) : P (φ_Ratio_over [x0, x1]) := fn_atP rfl rfl h
theorem run_Matrix_solve {x0 x1 : SV} {r : RF} (h : wp g_Matrix_solve [x0, x1, .un, .un, .un, .un, .un, .un, .un, .un, .un] (fun rs => endF [x0, x1] rs = r)) : φ_Matrix_solve [x0, x1] = r := fn_at rfl rfl h
theorem runP_Matrix_solve {x0 x1 : SV} {P : RF → Prop} (h : wp g_Matrix_solve [x0, x1, .un, .un, .un, .un, .un, .un, .un, .un, .un] (fun rs => P (endF [x0, x1] rs))) : P (φ_Matrix_solve [x0, x1]) := fn_atP rfl rfl h
theorem run_law {x0 : SV} {r : RF} (h : wp g_law [x0, .un, .un, .un, .un, .un, .un, .un, .un, .un, .un, .un, .un, .un, .un, .un, .un, .un, .un] (fun rs => endF [x0] rs = r)) : φ_law [x0] = r := fn_at rfl rfl h
theorem runP_law {x0 : SV} {P : RF → Prop} (h : wp g_law [x0, .un, .un, .un, .un, .un, .un, .un, .un, .un, .un, .un, .un, .un, .un, .un, .un, .un, .un] (fun rs => P (endF [x0] rs))) : P (φ_law [x0]) := fn_atP rfl rfl h
end
end L2.S.W

set_option Elab.async false
set_option linter.all false
set_option maxRecDepth 100000
set_option maxHeartbeats 8000000
namespace L2.S.W
open PySem PySem.Spec PyProof.Rows L2 L2.S
structure Ad where
  (Ratio_init unit Ratio_sub Ratio_mul Ratio_inverse eliminate law_cell law_draws law_gcd law_rat law_add law_mul law_is_integer law_pair law_pairs law_ratios law_small law_matrix law_dot law_combine Matrix_init law_to_matrix Matrix_reduced Ratio_neg Matrix_kernel Ratio_over Matrix_solve law Fault ZeroDivisor Ratio Matrix : Addr)
def TT (K : PySem.W.Frag) (a : Ad) : Tb where
  K := K
  cl := fun n => match n with | 0 => a.Ratio | 1 => a.Matrix | _ => 0
  fl := fun n => match n with | 0 => ["n", "d"] | 1 => ["rows", "width"] | _ => []
  ec := fun n => match n with | 0 => a.Fault | 1 => a.ZeroDivisor | _ => 0
  ef := fun n => match n with | 0 => [] | 1 => [] | _ => []
  fn := fun n => 0
theorem zz {K : PySem.W.Frag} {mg : Str → Option Value} {n : Str} (h : ∃ h : Heap, K.In h ∧ h.Ns mainGlobals mg) (e : PySem.W.nsIn K mainGlobals n = some none) : mg n = none := let ⟨_, X, G⟩ := h; ns_none X G e
structure Facts (K : PySem.W.Frag) (mg : Str → Option Value) (a : Ad) : Prop where
  hG : ∃ h : Heap, K.In h ∧ h.Ns mainGlobals mg
  sk : SeerK K
  F_Ratio_init : ∃ fd, FunD K "__init__" "Ratio.__init__" (defArgs s_Ratio_init) (defBody s_Ratio_init) (defScope s_Ratio_init) [V.int 1] [] a.Ratio_init fd
  k_Ratio_init : PySem.W.keepIn K (.ref a.Ratio_init) = true
  m__unit : mg "_unit" = some (.ref a.unit)
  F_unit : ∃ fd, FunD K "_unit" "_unit" (defArgs s_unit) (defBody s_unit) (defScope s_unit) [] [] a.unit fd
  k_unit : PySem.W.keepIn K (.ref a.unit) = true
  F_Ratio_sub : ∃ fd, FunD K "__sub__" "Ratio.__sub__" (defArgs s_Ratio_sub) (defBody s_Ratio_sub) (defScope s_Ratio_sub) [] [] a.Ratio_sub fd
  k_Ratio_sub : PySem.W.keepIn K (.ref a.Ratio_sub) = true
  F_Ratio_mul : ∃ fd, FunD K "__mul__" "Ratio.__mul__" (defArgs s_Ratio_mul) (defBody s_Ratio_mul) (defScope s_Ratio_mul) [] [] a.Ratio_mul fd
  k_Ratio_mul : PySem.W.keepIn K (.ref a.Ratio_mul) = true
  F_Ratio_inverse : ∃ fd, FunD K "inverse" "Ratio.inverse" (defArgs s_Ratio_inverse) (defBody s_Ratio_inverse) (defScope s_Ratio_inverse) [] [] a.Ratio_inverse fd
  k_Ratio_inverse : PySem.W.keepIn K (.ref a.Ratio_inverse) = true
  m__eliminate : mg "_eliminate" = some (.ref a.eliminate)
  F_eliminate : ∃ fd, FunD K "_eliminate" "_eliminate" (defArgs s_eliminate) (defBody s_eliminate) (defScope s_eliminate) [] [] a.eliminate fd
  k_eliminate : PySem.W.keepIn K (.ref a.eliminate) = true
  m__law_cell : mg "_law_cell" = some (.ref a.law_cell)
  F_law_cell : ∃ fd, FunD K "_law_cell" "_law_cell" (defArgs s_law_cell) (defBody s_law_cell) (defScope s_law_cell) [] [] a.law_cell fd
  k_law_cell : PySem.W.keepIn K (.ref a.law_cell) = true
  m__law_draws : mg "_law_draws" = some (.ref a.law_draws)
  F_law_draws : ∃ fd, FunD K "_law_draws" "_law_draws" (defArgs s_law_draws) (defBody s_law_draws) (defScope s_law_draws) [] [] a.law_draws fd
  k_law_draws : PySem.W.keepIn K (.ref a.law_draws) = true
  m__law_gcd : mg "_law_gcd" = some (.ref a.law_gcd)
  F_law_gcd : ∃ fd, FunD K "_law_gcd" "_law_gcd" (defArgs s_law_gcd) (defBody s_law_gcd) (defScope s_law_gcd) [] [] a.law_gcd fd
  k_law_gcd : PySem.W.keepIn K (.ref a.law_gcd) = true
  m__law_rat : mg "_law_rat" = some (.ref a.law_rat)
  F_law_rat : ∃ fd, FunD K "_law_rat" "_law_rat" (defArgs s_law_rat) (defBody s_law_rat) (defScope s_law_rat) [] [] a.law_rat fd
  k_law_rat : PySem.W.keepIn K (.ref a.law_rat) = true
  m__law_add : mg "_law_add" = some (.ref a.law_add)
  F_law_add : ∃ fd, FunD K "_law_add" "_law_add" (defArgs s_law_add) (defBody s_law_add) (defScope s_law_add) [] [] a.law_add fd
  k_law_add : PySem.W.keepIn K (.ref a.law_add) = true
  m__law_mul : mg "_law_mul" = some (.ref a.law_mul)
  F_law_mul : ∃ fd, FunD K "_law_mul" "_law_mul" (defArgs s_law_mul) (defBody s_law_mul) (defScope s_law_mul) [] [] a.law_mul fd
  k_law_mul : PySem.W.keepIn K (.ref a.law_mul) = true
  m__law_is_integer : mg "_law_is_integer" = some (.ref a.law_is_integer)
  F_law_is_integer : ∃ fd, FunD K "_law_is_integer" "_law_is_integer" (defArgs s_law_is_integer) (defBody s_law_is_integer) (defScope s_law_is_integer) [] [] a.law_is_integer fd
  k_law_is_integer : PySem.W.keepIn K (.ref a.law_is_integer) = true
  m__law_pair : mg "_law_pair" = some (.ref a.law_pair)
  F_law_pair : ∃ fd, FunD K "_law_pair" "_law_pair" (defArgs s_law_pair) (defBody s_law_pair) (defScope s_law_pair) [] [] a.law_pair fd
  k_law_pair : PySem.W.keepIn K (.ref a.law_pair) = true
  m__law_pairs : mg "_law_pairs" = some (.ref a.law_pairs)
  F_law_pairs : ∃ fd, FunD K "_law_pairs" "_law_pairs" (defArgs s_law_pairs) (defBody s_law_pairs) (defScope s_law_pairs) [] [] a.law_pairs fd
  k_law_pairs : PySem.W.keepIn K (.ref a.law_pairs) = true
  m__law_ratios : mg "_law_ratios" = some (.ref a.law_ratios)
  F_law_ratios : ∃ fd, FunD K "_law_ratios" "_law_ratios" (defArgs s_law_ratios) (defBody s_law_ratios) (defScope s_law_ratios) [] [] a.law_ratios fd
  k_law_ratios : PySem.W.keepIn K (.ref a.law_ratios) = true
  m__law_small : mg "_law_small" = some (.ref a.law_small)
  F_law_small : ∃ fd, FunD K "_law_small" "_law_small" (defArgs s_law_small) (defBody s_law_small) (defScope s_law_small) [] [] a.law_small fd
  k_law_small : PySem.W.keepIn K (.ref a.law_small) = true
  m__law_matrix : mg "_law_matrix" = some (.ref a.law_matrix)
  F_law_matrix : ∃ fd, FunD K "_law_matrix" "_law_matrix" (defArgs s_law_matrix) (defBody s_law_matrix) (defScope s_law_matrix) [] [] a.law_matrix fd
  k_law_matrix : PySem.W.keepIn K (.ref a.law_matrix) = true
  m__law_dot : mg "_law_dot" = some (.ref a.law_dot)
  F_law_dot : ∃ fd, FunD K "_law_dot" "_law_dot" (defArgs s_law_dot) (defBody s_law_dot) (defScope s_law_dot) [] [] a.law_dot fd
  k_law_dot : PySem.W.keepIn K (.ref a.law_dot) = true
  m__law_combine : mg "_law_combine" = some (.ref a.law_combine)
  F_law_combine : ∃ fd, FunD K "_law_combine" "_law_combine" (defArgs s_law_combine) (defBody s_law_combine) (defScope s_law_combine) [] [] a.law_combine fd
  k_law_combine : PySem.W.keepIn K (.ref a.law_combine) = true
  F_Matrix_init : ∃ fd, FunD K "__init__" "Matrix.__init__" (defArgs s_Matrix_init) (defBody s_Matrix_init) (defScope s_Matrix_init) [] [] a.Matrix_init fd
  k_Matrix_init : PySem.W.keepIn K (.ref a.Matrix_init) = true
  m__law_to_matrix : mg "_law_to_matrix" = some (.ref a.law_to_matrix)
  F_law_to_matrix : ∃ fd, FunD K "_law_to_matrix" "_law_to_matrix" (defArgs s_law_to_matrix) (defBody s_law_to_matrix) (defScope s_law_to_matrix) [] [] a.law_to_matrix fd
  k_law_to_matrix : PySem.W.keepIn K (.ref a.law_to_matrix) = true
  F_Matrix_reduced : ∃ fd, FunD K "reduced" "Matrix.reduced" (defArgs s_Matrix_reduced) (defBody s_Matrix_reduced) (defScope s_Matrix_reduced) [] [] a.Matrix_reduced fd
  k_Matrix_reduced : PySem.W.keepIn K (.ref a.Matrix_reduced) = true
  F_Ratio_neg : ∃ fd, FunD K "__neg__" "Ratio.__neg__" (defArgs s_Ratio_neg) (defBody s_Ratio_neg) (defScope s_Ratio_neg) [] [] a.Ratio_neg fd
  k_Ratio_neg : PySem.W.keepIn K (.ref a.Ratio_neg) = true
  F_Matrix_kernel : ∃ fd, FunD K "kernel" "Matrix.kernel" (defArgs s_Matrix_kernel) (defBody s_Matrix_kernel) (defScope s_Matrix_kernel) [] [] a.Matrix_kernel fd
  k_Matrix_kernel : PySem.W.keepIn K (.ref a.Matrix_kernel) = true
  F_Ratio_over : ∃ fd, FunD K "over" "Ratio.over" (defArgs s_Ratio_over) (defBody s_Ratio_over) (defScope s_Ratio_over) [] [] a.Ratio_over fd
  k_Ratio_over : PySem.W.keepIn K (.ref a.Ratio_over) = true
  F_Matrix_solve : ∃ fd, FunD K "solve" "Matrix.solve" (defArgs s_Matrix_solve) (defBody s_Matrix_solve) (defScope s_Matrix_solve) [] [] a.Matrix_solve fd
  k_Matrix_solve : PySem.W.keepIn K (.ref a.Matrix_solve) = true
  m_law : mg "law" = some (.ref a.law)
  F_law : ∃ fd, FunD K "law" "law" (defArgs s_law) (defBody s_law) (defScope s_law) [] [] a.law fd
  k_law : PySem.W.keepIn K (.ref a.law) = true
  m_Fault : mg "Fault" = some (.ref a.Fault)
  m_ZeroDivisor : mg "ZeroDivisor" = some (.ref a.ZeroDivisor)
  m_Ratio : mg "Ratio" = some (.ref a.Ratio)
  m_Matrix : mg "Matrix" = some (.ref a.Matrix)
  m_gcd : mg "gcd" = some (.builtin "math.gcd")
  mk_Matrix : PySem.W.makesIn K a.Matrix = true
  in_Matrix : PySem.W.findIn K (.ref a.Matrix) "__init__" = some (some (.ref a.Matrix_init))
  kc_Matrix : PySem.W.keepIn K (.ref a.Matrix) = true
  mk_Ratio : PySem.W.makesIn K a.Ratio = true
  in_Ratio : PySem.W.findIn K (.ref a.Ratio) "__init__" = some (some (.ref a.Ratio_init))
  kc_Ratio : PySem.W.keepIn K (.ref a.Ratio) = true
  xi_ZeroDivisor : PySem.W.excIn K a.ZeroDivisor [.type "ValueError", .type "Exception", .type "BaseException", .type "object"] "ValueError.__new__" = true
  kx_ZeroDivisor : PySem.W.keepIn K (.ref a.ZeroDivisor) = true
  sx_ZeroDivisor : PySem.W.subIn K (.ref a.ZeroDivisor) (.type "BaseException") = some true
  tx_ZeroDivisor : PySem.W.typeIn K (.ref a.ZeroDivisor) = some (.type "type")
  pg_Ratio : PySem.W.plainGet K a.Ratio Str.empty = true
  hd_Ratio : PySem.W.hasDictIn K a.Ratio = true
  po_Ratio : PySem.W.plainOver K a.Ratio = true
  sa_Ratio : PySem.W.findIn K (.ref a.Ratio) "__setattr__" = some (some (.builtin "object.__setattr__"))
  na_Ratio_n : PySem.W.findIn K (.ref a.Ratio) "n" = some none
  na_Ratio_d : PySem.W.findIn K (.ref a.Ratio) "d" = some none
  z_range : PySem.W.nsIn K mainGlobals "range" = some none
  z_int : PySem.W.nsIn K mainGlobals "int" = some none
  z_len : PySem.W.nsIn K mainGlobals "len" = some none
  z_zip : PySem.W.nsIn K mainGlobals "zip" = some none
  op_Ratio_mul : PySem.W.findIn K (.ref a.Ratio) "__mul__" = some (some (.ref a.Ratio_mul))
  fn_Ratio_mul : PySem.W.isFn K (.ref a.Ratio_mul) = true
  sf_Ratio : PySem.W.selfFirst K a.Ratio = true
  op_Ratio_sub : PySem.W.findIn K (.ref a.Ratio) "__sub__" = some (some (.ref a.Ratio_sub))
  fn_Ratio_sub : PySem.W.isFn K (.ref a.Ratio_sub) = true
  fn_Ratio_inverse : PySem.W.isFn K (.ref a.Ratio_inverse) = true
  me_Ratio_inverse : PySem.W.findIn K (.ref a.Ratio) "inverse" = some (some (.ref a.Ratio_inverse))
  z_abs : PySem.W.nsIn K mainGlobals "abs" = some none
  z_isinstance : PySem.W.nsIn K mainGlobals "isinstance" = some none
  is_int_Matrix : PySem.W.kitAny K (.ref a.Matrix) [.type "int"] = some false
  ca_Matrix : PySem.W.findIn K (.ref a.Matrix) "__class__" = some (some (.builtin "object.__class__"))
  cn_ : PySem.W.specialIn K (.builtin "object.__class__") "__get__" = some (some (.builtin "getset_descriptor.__get__"))
  ct_ : PySem.W.takesIn K (.builtin "object.__class__") = some true
  ob_Matrix : PySem.W.mroIn K a.Matrix (.type "object") = some true
  pg_Matrix : PySem.W.plainGet K a.Matrix Str.empty = true
  hd_Matrix : PySem.W.hasDictIn K a.Matrix = true
  po_Matrix : PySem.W.plainOver K a.Matrix = true
  sa_Matrix : PySem.W.findIn K (.ref a.Matrix) "__setattr__" = some (some (.builtin "object.__setattr__"))
  na_Matrix_rows : PySem.W.findIn K (.ref a.Matrix) "rows" = some none
  na_Matrix_width : PySem.W.findIn K (.ref a.Matrix) "width" = some none
  is_int_Ratio : PySem.W.kitAny K (.ref a.Ratio) [.type "int"] = some false
  ca_Ratio : PySem.W.findIn K (.ref a.Ratio) "__class__" = some (some (.builtin "object.__class__"))
  ob_Ratio : PySem.W.mroIn K a.Ratio (.type "object") = some true
  is_bool_Matrix : PySem.W.kitAny K (.ref a.Matrix) [.type "bool"] = some false
  is_bool_Ratio : PySem.W.kitAny K (.ref a.Ratio) [.type "bool"] = some false
  z_bool : PySem.W.nsIn K mainGlobals "bool" = some none
  is_Ratio_Matrix : PySem.W.kitAny K (.ref a.Matrix) [.ref a.Ratio] = some false
  is_Ratio_Ratio : PySem.W.kitAny K (.ref a.Ratio) [.ref a.Ratio] = some true
  is_Ratio_5 : PySem.W.kitAny K (.type "list") [.ref a.Ratio] = some false
  is_Ratio_4 : PySem.W.kitAny K (.type "tuple") [.ref a.Ratio] = some false
  is_Ratio_3 : PySem.W.kitAny K (.type "str") [.ref a.Ratio] = some false
  is_Ratio_2 : PySem.W.kitAny K (.type "int") [.ref a.Ratio] = some false
  is_Ratio_1 : PySem.W.kitAny K (.type "bool") [.ref a.Ratio] = some false
  is_Ratio_0 : PySem.W.kitAny K (.type "NoneType") [.ref a.Ratio] = some false
  z_tuple : PySem.W.nsIn K mainGlobals "tuple" = some none
  is_tuple_Matrix : PySem.W.kitAny K (.ref a.Matrix) [.type "tuple"] = some false
  is_tuple_Ratio : PySem.W.kitAny K (.ref a.Ratio) [.type "tuple"] = some false
  z_list : PySem.W.nsIn K mainGlobals "list" = some none
  op_Ratio_neg : PySem.W.findIn K (.ref a.Ratio) "__neg__" = some (some (.ref a.Ratio_neg))
  fn_Ratio_neg : PySem.W.isFn K (.ref a.Ratio_neg) = true
  fn_Matrix_reduced : PySem.W.isFn K (.ref a.Matrix_reduced) = true
  me_Matrix_reduced : PySem.W.findIn K (.ref a.Matrix) "reduced" = some (some (.ref a.Matrix_reduced))
  fn_Ratio_over : PySem.W.isFn K (.ref a.Ratio_over) = true
  me_Ratio_over : PySem.W.findIn K (.ref a.Ratio) "over" = some (some (.ref a.Ratio_over))
  fn_Matrix_solve : PySem.W.isFn K (.ref a.Matrix_solve) = true
  me_Matrix_solve : PySem.W.findIn K (.ref a.Matrix) "solve" = some (some (.ref a.Matrix_solve))
  fn_Matrix_kernel : PySem.W.isFn K (.ref a.Matrix_kernel) = true
  me_Matrix_kernel : PySem.W.findIn K (.ref a.Matrix) "kernel" = some (some (.ref a.Matrix_kernel))
  fn_Matrix_init : PySem.W.isFn K (.ref a.Matrix_init) = true
  fn_Ratio_init : PySem.W.isFn K (.ref a.Ratio_init) = true
section
variable {K : PySem.W.Frag} {mg : Str → Option Value} {a : Ad} {w : World} {base : Heap}
theorem cl_Matrix (H : Facts K mg a) : Cls K ((TT K a).cl 1) := ⟨H.pg_Matrix, H.hd_Matrix, H.po_Matrix, H.sa_Matrix⟩
theorem cf_Matrix (H : Facts K mg a) : ClsF K (TT K a) 1 := by
  refine ⟨cl_Matrix H, fun f h => ?_, (by decide +kernel : (["rows", "width"] : List Str).Nodup), by show 2 < 900; decide⟩
  have h' : f ∈ [("rows" : Str), ("width" : Str)] := h
  simp only [List.mem_cons, List.mem_nil_iff, or_false] at h'
  rcases h' with rfl | rfl
  · exact H.na_Matrix_rows
  · exact H.na_Matrix_width
theorem ci_Matrix (H : Facts K mg a) : ClsI K (TT K a) 1 := ⟨H.ca_Matrix, H.cn_, H.ct_, H.ob_Matrix⟩
theorem cl_Ratio (H : Facts K mg a) : Cls K ((TT K a).cl 0) := ⟨H.pg_Ratio, H.hd_Ratio, H.po_Ratio, H.sa_Ratio⟩
theorem cf_Ratio (H : Facts K mg a) : ClsF K (TT K a) 0 := by
  refine ⟨cl_Ratio H, fun f h => ?_, (by decide +kernel : (["n", "d"] : List Str).Nodup), by show 2 < 900; decide⟩
  have h' : f ∈ [("n" : Str), ("d" : Str)] := h
  simp only [List.mem_cons, List.mem_nil_iff, or_false] at h'
  rcases h' with rfl | rfl
  · exact H.na_Ratio_n
  · exact H.na_Ratio_d
theorem ci_Ratio (H : Facts K mg a) : ClsI K (TT K a) 0 := ⟨H.ca_Ratio, H.cn_, H.ct_, H.ob_Ratio⟩
theorem mk_Matrix (H : Facts K mg a) : Mk K ((TT K a).cl 1) a.Matrix_init := ⟨H.mk_Matrix, H.in_Matrix, H.fn_Matrix_init, H.kc_Matrix⟩
theorem mk_Ratio (H : Facts K mg a) : Mk K ((TT K a).cl 0) a.Ratio_init := ⟨H.mk_Ratio, H.in_Ratio, H.fn_Ratio_init, H.kc_Ratio⟩
theorem ex_ZeroDivisor {X : Cx} (H : Facts X.K mg a) : ExcF X (TT X.K a) 1 := ⟨⟨_, _, _, _, PySem.F.excBase_ValueError, H.xi_ZeroDivisor⟩, H.kx_ZeroDivisor, raises_own H.sx_ZeroDivisor H.tx_ZeroDivisor, rfl⟩
theorem S_Ratio_init : FnScope N_Ratio_init ["self", "n", "d"] (defScope s_Ratio_init) := ⟨rfl, rfl, rfl, by decide +kernel, rfl, by decide +kernel, by decide +kernel⟩
theorem o_Ratio_init (H : Facts K mg a) : ∃ fd, FunD K "__init__" "Ratio.__init__" (defArgs s_Ratio_init) (defBody s_Ratio_init) (defScope s_Ratio_init) [V.int 1] [] a.Ratio_init fd ∧ FnOk PP w K mg base (L2.CX PP w) 41 a.Ratio_init fd ["self", "n", "d"] (sp (TT K a) φ_Ratio_init) := by
  obtain ⟨fd, F⟩ := H.F_Ratio_init
  refine ⟨fd, F, fn_d F S_Ratio_init fun cdv A outer s H0 E hr => ?_⟩
  exact (sss_cons (ss_if (st_cmp rfl (o_eq rfl hr.units) (se_v 2) se_int (nomark _)) (sss_one (ss_raise rfl (takes_of rfl rfl rfl rfl) (ex_ZeroDivisor H) H.m_ZeroDivisor)) sss_nil)
(sss_cons (ss_set (i := 3) S_Ratio_init.nd (se_if (st_cmp rfl o_gt (se_v 2) se_int (nomark _)) (se_bim b_gcd H.m_gcd (sa_d (se_v 1) (sa_d (se_v 2) sa_0))) (se_neg (se_bim b_gcd H.m_gcd (sa_d (se_v 1) (sa_d (se_v 2) sa_0))))))
(sss_cons (ss_fld0 (k := 0) 0 (cf_Ratio H) (se_bin (o_div ⟨H.sk, rfl, ⟨_, _, rfl, rfl, rfl, rfl, rfl⟩, (hr.mono (by decide))⟩) (se_v 1) (se_v 3)))
(sss_one (ss_fld0 (k := 1) 0 (cf_Ratio H) (se_bin (o_div ⟨H.sk, rfl, ⟨_, _, rfl, rfl, rfl, rfl, rfl⟩, (hr.mono (by decide))⟩) (se_v 2) (se_v 3)))))))
theorem c_Ratio_init (H : Facts K mg a) : FnC PP w K mg base (TT K a) 41 φ_Ratio_init [] a.Ratio_init := by
  obtain ⟨fd, F, ok⟩ := o_Ratio_init (w := w) (base := base) H
  exact fnc_dfl F ok 3 1 (fun z => nomatch z) rfl (fun _ => .nil) fun _ _ _ _ _ _ _ us its h1 h2 => match us, its, h1, h2 with | [_, _, _], [_], _, _ => ⟨_, rfl, rfl⟩
theorem c1_Ratio_init (H : Facts K mg a) : FnC PP w K mg base (TT K a) 41 φ_Ratio_init [(.int 1)] a.Ratio_init := by
  obtain ⟨fd, F, ok⟩ := o_Ratio_init (w := w) (base := base) H
  exact fnc_dfl F ok 2 0 (fun z => nomatch z) rfl (fun _ => (.cons (.int _) .nil)) fun _ _ _ _ _ _ _ us its h1 h2 => match us, its, h1, h2 with | [_, _], [_], _, _ => ⟨_, rfl, rfl⟩
theorem S_unit : FnScope N_unit ["size", "at"] (defScope s_unit) := ⟨rfl, rfl, rfl, by decide +kernel, rfl, by decide +kernel, by decide +kernel⟩
theorem o_unit (H : Facts K mg a) : ∃ fd, FunD K "_unit" "_unit" (defArgs s_unit) (defBody s_unit) (defScope s_unit) [] [] a.unit fd ∧ FnOk PP w K mg base (L2.CX PP w) 44 a.unit fd ["size", "at"] (sp (TT K a) φ_unit) := by
  obtain ⟨fd, F⟩ := H.F_unit
  refine ⟨fd, F, fn_d F S_unit fun cdv A outer s H0 E hr => ?_⟩
  exact (sss_one (ss_ret (se_lc rfl S_unit.nd (si_r1 rfl (zz H.hG H.z_range) (sa_d (se_v 0) sa_0)) (blkOk_by (N := N_unit) (own := [("k", 2)]) (sc := defScope s_unit) (by decide +kernel)) (fun _ _ _ _ _ => (sg_n (i := 2) S_unit.nd)) (fun _ _ _ _ _ => sts_0) (fun _ _ _ _ _ => (se_make rfl (mk_Ratio H) (c1_Ratio_init H) H.m_Ratio (hr.mono (by decide)) takes0 (sa_d (se_bit b_int (zz H.hG H.z_int) (sa_d (se_cmp (o_eq rfl hr.units) (se_v 2) (se_v 1) (nomark _)) sa_0)) sa_0))))))
theorem c_unit (H : Facts K mg a) : FnC PP w K mg base (TT K a) 44 φ_unit [] a.unit := by
  obtain ⟨fd, F, ok⟩ := o_unit (w := w) (base := base) H
  exact fnc_all F ok fun _ _ _ _ _ _ us h => match us, h with | [_, _], _ => rfl
theorem S_Ratio_sub : FnScope N_Ratio_sub ["self", "other"] (defScope s_Ratio_sub) := ⟨rfl, rfl, rfl, by decide +kernel, rfl, by decide +kernel, by decide +kernel⟩
theorem o_Ratio_sub (H : Facts K mg a) : ∃ fd, FunD K "__sub__" "Ratio.__sub__" (defArgs s_Ratio_sub) (defBody s_Ratio_sub) (defScope s_Ratio_sub) [] [] a.Ratio_sub fd ∧ FnOk PP w K mg base (L2.CX PP w) 44 a.Ratio_sub fd ["self", "other"] (sp (TT K a) φ_Ratio_sub) := by
  obtain ⟨fd, F⟩ := H.F_Ratio_sub
  refine ⟨fd, F, fn_d F S_Ratio_sub fun cdv A outer s H0 E hr => ?_⟩
  exact (sss_one (ss_ret (se_make rfl (mk_Ratio H) (c_Ratio_init H) H.m_Ratio (hr.mono (by decide)) (takes_of rfl rfl rfl rfl) (sa_d (se_bin o_subI (se_bin o_mul (se_fld (fldF_c (cf_Ratio H) fldF_0) (se_v 0)) (se_fld (fldF_c (cf_Ratio H) fldF_0) (se_v 1))) (se_bin o_mul (se_fld (fldF_c (cf_Ratio H) fldF_0) (se_v 1)) (se_fld (fldF_c (cf_Ratio H) fldF_0) (se_v 0)))) (sa_d (se_bin o_mul (se_fld (fldF_c (cf_Ratio H) fldF_0) (se_v 0)) (se_fld (fldF_c (cf_Ratio H) fldF_0) (se_v 1))) sa_0)))))
theorem c_Ratio_sub (H : Facts K mg a) : FnC PP w K mg base (TT K a) 44 φ_Ratio_sub [] a.Ratio_sub := by
  obtain ⟨fd, F, ok⟩ := o_Ratio_sub (w := w) (base := base) H
  exact fnc_all F ok fun _ _ _ _ _ _ us h => match us, h with | [_, _], _ => rfl
theorem S_Ratio_mul : FnScope N_Ratio_mul ["self", "other"] (defScope s_Ratio_mul) := ⟨rfl, rfl, rfl, by decide +kernel, rfl, by decide +kernel, by decide +kernel⟩
theorem o_Ratio_mul (H : Facts K mg a) : ∃ fd, FunD K "__mul__" "Ratio.__mul__" (defArgs s_Ratio_mul) (defBody s_Ratio_mul) (defScope s_Ratio_mul) [] [] a.Ratio_mul fd ∧ FnOk PP w K mg base (L2.CX PP w) 44 a.Ratio_mul fd ["self", "other"] (sp (TT K a) φ_Ratio_mul) := by
  obtain ⟨fd, F⟩ := H.F_Ratio_mul
  refine ⟨fd, F, fn_d F S_Ratio_mul fun cdv A outer s H0 E hr => ?_⟩
  exact (sss_one (ss_ret (se_make rfl (mk_Ratio H) (c_Ratio_init H) H.m_Ratio (hr.mono (by decide)) (takes_of rfl rfl rfl rfl) (sa_d (se_bin o_mul (se_fld (fldF_c (cf_Ratio H) fldF_0) (se_v 0)) (se_fld (fldF_c (cf_Ratio H) fldF_0) (se_v 1))) (sa_d (se_bin o_mul (se_fld (fldF_c (cf_Ratio H) fldF_0) (se_v 0)) (se_fld (fldF_c (cf_Ratio H) fldF_0) (se_v 1))) sa_0)))))
theorem c_Ratio_mul (H : Facts K mg a) : FnC PP w K mg base (TT K a) 44 φ_Ratio_mul [] a.Ratio_mul := by
  obtain ⟨fd, F, ok⟩ := o_Ratio_mul (w := w) (base := base) H
  exact fnc_all F ok fun _ _ _ _ _ _ us h => match us, h with | [_, _], _ => rfl
theorem S_Ratio_inverse : FnScope N_Ratio_inverse ["self"] (defScope s_Ratio_inverse) := ⟨rfl, rfl, rfl, by decide +kernel, rfl, by decide +kernel, by decide +kernel⟩
theorem o_Ratio_inverse (H : Facts K mg a) : ∃ fd, FunD K "inverse" "Ratio.inverse" (defArgs s_Ratio_inverse) (defBody s_Ratio_inverse) (defScope s_Ratio_inverse) [] [] a.Ratio_inverse fd ∧ FnOk PP w K mg base (L2.CX PP w) 44 a.Ratio_inverse fd ["self"] (sp (TT K a) φ_Ratio_inverse) := by
  obtain ⟨fd, F⟩ := H.F_Ratio_inverse
  refine ⟨fd, F, fn_d F S_Ratio_inverse fun cdv A outer s H0 E hr => ?_⟩
  exact (sss_one (ss_ret (se_make rfl (mk_Ratio H) (c_Ratio_init H) H.m_Ratio (hr.mono (by decide)) (takes_of rfl rfl rfl rfl) (sa_d (se_fld (fldF_c (cf_Ratio H) fldF_0) (se_v 0)) (sa_d (se_fld (fldF_c (cf_Ratio H) fldF_0) (se_v 0)) sa_0)))))
theorem c_Ratio_inverse (H : Facts K mg a) : FnC PP w K mg base (TT K a) 44 φ_Ratio_inverse [] a.Ratio_inverse := by
  obtain ⟨fd, F, ok⟩ := o_Ratio_inverse (w := w) (base := base) H
  exact fnc_all F ok fun _ _ _ _ _ _ us h => match us, h with | [_], _ => rfl
theorem S_eliminate : FnScope N_eliminate ["table", "width"] (defScope s_eliminate) := ⟨rfl, rfl, rfl, by decide +kernel, rfl, by decide +kernel, by decide +kernel⟩
theorem o_eliminate (H : Facts K mg a) : ∃ fd, FunD K "_eliminate" "_eliminate" (defArgs s_eliminate) (defBody s_eliminate) (defScope s_eliminate) [] [] a.eliminate fd ∧ FnOk PP w K mg base (L2.CX PP w) 47 a.eliminate fd ["table", "width"] (sp (TT K a) φ_eliminate) := by
  obtain ⟨fd, F⟩ := H.F_eliminate
  refine ⟨fd, F, fn_d F S_eliminate fun cdv A outer s H0 E hr => ?_⟩
  exact (sss_cons (ss_setO (i := 2) S_eliminate.nd (se_lst sa_0))
(sss_cons (ss_for (passes_of rfl) rfl (si_r1 rfl (zz H.hG H.z_range) (sa_d (se_v 1) sa_0)) (sg_n (i := 3) S_eliminate.nd) (sss_cons (ss_set (i := 4) S_eliminate.nd (se_lenO 2 (zz H.hG H.z_len)))
(sss_cons (ss_setLc (i := 5) rfl S_eliminate.nd (si_r2 rfl (zz H.hG H.z_range) (sa_d (se_v 4) (sa_d (se_lenO 0 (zz H.hG H.z_len)) sa_0))) (blkOk_by (N := N_eliminate) (own := [("at", 6)]) (sc := defScope s_eliminate) (by decide +kernel)) (fun _ _ _ _ _ => (sg_n (i := 6) S_eliminate.nd)) (fun _ _ _ _ _ => (sts_1 (st_cmp rfl (o_ne rfl hr.units) (se_fld (fldF_c (cf_Ratio H) fldF_0) (se_ix rfl (se_ixO 0 (se_v 6)) (se_v 3))) se_int (nomark _)))) (fun _ _ _ _ _ => (se_v 6)))
(sss_cons (ss_if (st_cmp rfl (o_eq rfl hr.units) (se_bif (b_len rfl) (zz H.hG H.z_len) (sa_d (se_v 5) sa_0)) se_int (nomark _)) (sss_one ss_continue) sss_nil)
(sss_cons (ss_set (i := 7) S_eliminate.nd (se_ixO 0 (se_ix rfl (se_v 5) se_int)))
(sss_cons (ss_sub 0 (se_ixO 0 (se_v 4)) (se_ix rfl (se_v 5) se_int))
(sss_cons (ss_set (i := 8) S_eliminate.nd (se_meth0 (cf_Ratio H) rfl (show ("inverse" : Str) ∉ (["n", "d"] : List Str) by decide +kernel) ⟨H.me_Ratio_inverse, H.fn_Ratio_inverse, H.k_Ratio_inverse⟩ (c_Ratio_inverse H) (hr.mono (by decide)) (takes_of rfl rfl rfl rfl) (se_ix rfl (se_v 7) (se_v 3))))
(sss_cons (ss_setLc (i := 7) rfl S_eliminate.nd (si_d rfl (se_v 7)) (blkOk_by (N := N_eliminate) (own := [("item", 9)]) (sc := defScope s_eliminate) (by decide +kernel)) (fun _ _ _ _ _ => (sg_n (i := 9) S_eliminate.nd)) (fun _ _ _ _ _ => sts_0) (fun _ _ _ _ _ => (se_if (st_cmp rfl (o_eq rfl hr.units) (se_fld (fldF_c (cf_Ratio H) fldF_0) (se_v 9)) se_int (nomark _)) (se_v 9) (se_binE (oe_own takes0 o_mul (ownOps_c ⟨⟨_, _, (c_Ratio_mul H), (hr.mono (by decide)), H.op_Ratio_mul, H.fn_Ratio_mul⟩, H.sf_Ratio⟩ ownOps_0)) (se_v 8) (se_v 9)))))
(sss_cons (ss_sub 0 (se_v 7) (se_v 4))
(sss_cons (ss_for (passes_of rfl) rfl (si_r1 rfl (zz H.hG H.z_range) (sa_d (se_lenO 0 (zz H.hG H.z_len)) sa_0)) (sg_n (i := 10) S_eliminate.nd) (sss_cons (ss_set (i := 11) S_eliminate.nd (se_ix rfl (se_ixO 0 (se_v 10)) (se_v 3)))
(sss_one (ss_if (SW.st (sw_and (st_cmp rfl (o_ne rfl hr.units) (se_v 10) (se_v 4) (nomark _)) (sw_and1 (st_cmp rfl (o_ne rfl hr.units) (se_fld (fldF_c (cf_Ratio H) fldF_0) (se_v 11)) se_int (nomark _))))) (sss_one (ss_sub 0 (se_lc rfl S_eliminate.nd (si_zip rfl (zz H.hG H.z_zip) (sa_d (se_ixO 0 (se_v 10)) (sa_d (se_v 7) sa_0))) (blkOk_by (N := N_eliminate) (own := [("x", 12), ("y", 13)]) (sc := defScope s_eliminate) (by decide +kernel)) (fun _ _ _ _ _ => (sg_t rfl rfl (sgs_c (sg_n (i := 12) S_eliminate.nd) (sgs_c (sg_n (i := 13) S_eliminate.nd) sgs_0)))) (fun _ _ _ _ _ => sts_0) (fun _ _ _ _ _ => (se_if (st_cmp rfl (o_eq rfl hr.units) (se_fld (fldF_c (cf_Ratio H) fldF_0) (se_v 13)) se_int (nomark _)) (se_v 12) (se_binE (oe_own takes0 o_subI (ownOps_c ⟨⟨_, _, (c_Ratio_sub H), (hr.mono (by decide)), H.op_Ratio_sub, H.fn_Ratio_sub⟩, H.sf_Ratio⟩ ownOps_0)) (se_v 12) (se_binE (oe_own takes0 o_mul (ownOps_c ⟨⟨_, _, (c_Ratio_mul H), (hr.mono (by decide)), H.op_Ratio_mul, H.fn_Ratio_mul⟩, H.sf_Ratio⟩ ownOps_0)) (se_v 11) (se_v 13)))))) (se_v 10))) sss_nil))))
(sss_one (ss_expr (se_app 2 (se_v 3))))))))))))))
(sss_one (ss_retO 2))))
theorem c_eliminate (H : Facts K mg a) : FnC PP w K mg base (TT K a) 47 φ_eliminate [] a.eliminate := by
  obtain ⟨fd, F, ok⟩ := o_eliminate (w := w) (base := base) H
  exact fnc_all F ok fun _ _ _ _ _ _ us h => match us, h with | [_, _], _ => rfl
theorem S_law_cell : FnScope N_law_cell ["script", "k"] (defScope s_law_cell) := ⟨rfl, rfl, rfl, by decide +kernel, rfl, by decide +kernel, by decide +kernel⟩
theorem o_law_cell (H : Facts K mg a) : ∃ fd, FunD K "_law_cell" "_law_cell" (defArgs s_law_cell) (defBody s_law_cell) (defScope s_law_cell) [] [] a.law_cell fd ∧ FnOk PP w K mg base (L2.CX PP w) 2 a.law_cell fd ["script", "k"] (sp (TT K a) φ_law_cell) := by
  obtain ⟨fd, F⟩ := H.F_law_cell
  refine ⟨fd, F, fn_d F S_law_cell fun cdv A outer s H0 E hr => ?_⟩
  exact (sss_cons (ss_if (st_cmp rfl o_lt (se_v 1) (se_bif (b_len rfl) (zz H.hG H.z_len) (sa_d (se_v 0) sa_0)) (nomark _)) (sss_one (ss_ret (se_ix rfl (se_v 0) (se_v 1)))) sss_nil)
(sss_one (ss_ret se_int)))
theorem c_law_cell (H : Facts K mg a) : FnC PP w K mg base (TT K a) 2 φ_law_cell [] a.law_cell := by
  obtain ⟨fd, F, ok⟩ := o_law_cell (w := w) (base := base) H
  exact fnc_all F ok fun _ _ _ _ _ _ us h => match us, h with | [_, _], _ => rfl
theorem S_law_draws : FnScope N_law_draws ["script", "at", "count", "bound"] (defScope s_law_draws) := ⟨rfl, rfl, rfl, by decide +kernel, rfl, by decide +kernel, by decide +kernel⟩
theorem o_law_draws (H : Facts K mg a) : ∃ fd, FunD K "_law_draws" "_law_draws" (defArgs s_law_draws) (defBody s_law_draws) (defScope s_law_draws) [] [] a.law_draws fd ∧ FnOk PP w K mg base (L2.CX PP w) 41 a.law_draws fd ["script", "at", "count", "bound"] (sp (TT K a) φ_law_draws) := by
  obtain ⟨fd, F⟩ := H.F_law_draws
  refine ⟨fd, F, fn_d F S_law_draws fun cdv A outer s H0 E hr => ?_⟩
  exact (sss_cons (ss_set (i := 4) S_law_draws.nd (se_call (c_law_cell H) H.m__law_cell (hr.mono (by decide)) (takes_of rfl rfl rfl rfl) (sa_d (se_v 0) (sa_d (se_v 1) sa_0))))
(sss_cons (ss_setO (i := 5) S_law_draws.nd (se_lst sa_0))
(sss_cons (ss_if (st_cmp rfl o_ge (se_v 4) (se_bin o_powI se_int se_int) (nomark _)) (sss_cons (ss_for (passes_of rfl) rfl (si_r1 rfl (zz H.hG H.z_range) (sa_d (se_v 2) sa_0)) (sg_n (i := 6) S_law_draws.nd) (sss_cons (ss_expr (se_app 5 (se_bin o_modI (se_bit b_int (zz H.hG H.z_int) (sa_d (se_v 4) sa_0)) (se_v 3))))
(sss_one (ss_set (i := 4) S_law_draws.nd (se_bin (o_div ⟨H.sk, rfl, ⟨_, _, rfl, rfl, rfl, rfl, rfl⟩, (hr.mono (by decide))⟩) (se_bit b_int (zz H.hG H.z_int) (sa_d (se_v 4) sa_0)) (se_v 3))))))
(sss_one (ss_retO 5))) sss_nil)
(sss_cons (ss_set (i := 7) S_law_draws.nd (se_bin (o_add rfl) (se_bin (o_add rfl) (se_bin o_modI (se_bit b_int (zz H.hG H.z_int) (sa_d (se_v 4) sa_0)) se_int) (se_bin o_mul se_int (se_v 1))) se_int))
(sss_cons (ss_for (passes_of rfl) rfl (si_r1 rfl (zz H.hG H.z_range) (sa_d (se_v 2) sa_0)) (sg_n (i := 6) S_law_draws.nd) (sss_cons (ss_set (i := 7) S_law_draws.nd (se_bin o_modI (se_bit b_int (zz H.hG H.z_int) (sa_d (se_bin (o_add rfl) (se_bin (o_add rfl) (se_bin o_mul (se_v 7) se_int) (se_bin o_mul se_int (se_v 6))) (se_v 1)) sa_0)) se_int))
(sss_cons (ss_set (i := 8) S_law_draws.nd (se_bin o_modI (se_bit b_int (zz H.hG H.z_int) (sa_d (se_bin (o_add rfl) (se_bin (o_add rfl) (se_bin o_mul (se_v 7) se_int) (se_bin o_mul se_int (se_v 6))) se_int) sa_0)) se_int))
(sss_one (ss_expr (se_app 5 (se_bin o_modI (se_bit b_int (zz H.hG H.z_int) (sa_d (se_v 8) sa_0)) (se_v 3))))))))
(sss_one (ss_retO 5)))))))
theorem c_law_draws (H : Facts K mg a) : FnC PP w K mg base (TT K a) 41 φ_law_draws [] a.law_draws := by
  obtain ⟨fd, F, ok⟩ := o_law_draws (w := w) (base := base) H
  exact fnc_all F ok fun _ _ _ _ _ _ us h => match us, h with | [_, _, _, _], _ => rfl
theorem S_law_gcd : FnScope N_law_gcd ["a", "b"] (defScope s_law_gcd) := ⟨rfl, rfl, rfl, by decide +kernel, rfl, by decide +kernel, by decide +kernel⟩
theorem o_law_gcd (H : Facts K mg a) : ∃ fd, FunD K "_law_gcd" "_law_gcd" (defArgs s_law_gcd) (defBody s_law_gcd) (defScope s_law_gcd) [] [] a.law_gcd fd ∧ FnOk PP w K mg base (L2.CX PP w) 2 a.law_gcd fd ["a", "b"] (sp (TT K a) φ_law_gcd) := by
  obtain ⟨fd, F⟩ := H.F_law_gcd
  refine ⟨fd, F, fn_d F S_law_gcd fun cdv A outer s H0 E hr => ?_⟩
  exact (sss_cons (ss_set (i := 2) S_law_gcd.nd (se_bif b_abs (zz H.hG H.z_abs) (sa_d (se_v 0) sa_0)))
(sss_cons (ss_set (i := 3) S_law_gcd.nd (se_bif b_abs (zz H.hG H.z_abs) (sa_d (se_v 1) sa_0)))
(sss_cons (ss_while fuelE (passes_of rfl) (st_cmp rfl (o_ne rfl hr.units) (se_v 3) se_int (nomark _)) (sss_cons (ss_set (i := 4) S_law_gcd.nd (se_bin o_modI (se_bit b_int (zz H.hG H.z_int) (sa_d (se_v 2) sa_0)) (se_v 3)))
(sss_cons (ss_set (i := 2) S_law_gcd.nd (se_v 3))
(sss_one (ss_set (i := 3) S_law_gcd.nd (se_v 4))))))
(sss_one (ss_ret (se_v 2))))))
theorem c_law_gcd (H : Facts K mg a) : FnC PP w K mg base (TT K a) 2 φ_law_gcd [] a.law_gcd := by
  obtain ⟨fd, F, ok⟩ := o_law_gcd (w := w) (base := base) H
  exact fnc_all F ok fun _ _ _ _ _ _ us h => match us, h with | [_, _], _ => rfl
theorem S_law_rat : FnScope N_law_rat ["n", "d"] (defScope s_law_rat) := ⟨rfl, rfl, rfl, by decide +kernel, rfl, by decide +kernel, by decide +kernel⟩
theorem o_law_rat (H : Facts K mg a) : ∃ fd, FunD K "_law_rat" "_law_rat" (defArgs s_law_rat) (defBody s_law_rat) (defScope s_law_rat) [] [] a.law_rat fd ∧ FnOk PP w K mg base (L2.CX PP w) 41 a.law_rat fd ["n", "d"] (sp (TT K a) φ_law_rat) := by
  obtain ⟨fd, F⟩ := H.F_law_rat
  refine ⟨fd, F, fn_d F S_law_rat fun cdv A outer s H0 E hr => ?_⟩
  exact (sss_cons (ss_set (i := 2) S_law_rat.nd (se_call (c_law_gcd H) H.m__law_gcd (hr.mono (by decide)) (takes_of rfl rfl rfl rfl) (sa_d (se_v 0) (sa_d (se_v 1) sa_0))))
(sss_cons (ss_if (st_cmp rfl o_lt (se_v 1) se_int (nomark _)) (sss_one (ss_set (i := 2) S_law_rat.nd (se_neg (se_v 2)))) sss_nil)
(sss_one (ss_ret (se_tup (sa_d (se_bin (o_div ⟨H.sk, rfl, ⟨_, _, rfl, rfl, rfl, rfl, rfl⟩, (hr.mono (by decide))⟩) (se_v 0) (se_v 2)) (sa_d (se_bin (o_div ⟨H.sk, rfl, ⟨_, _, rfl, rfl, rfl, rfl, rfl⟩, (hr.mono (by decide))⟩) (se_v 1) (se_v 2)) sa_0)))))))
theorem c_law_rat (H : Facts K mg a) : FnC PP w K mg base (TT K a) 41 φ_law_rat [] a.law_rat := by
  obtain ⟨fd, F, ok⟩ := o_law_rat (w := w) (base := base) H
  exact fnc_all F ok fun _ _ _ _ _ _ us h => match us, h with | [_, _], _ => rfl
theorem S_law_add : FnScope N_law_add ["a", "b"] (defScope s_law_add) := ⟨rfl, rfl, rfl, by decide +kernel, rfl, by decide +kernel, by decide +kernel⟩
theorem o_law_add (H : Facts K mg a) : ∃ fd, FunD K "_law_add" "_law_add" (defArgs s_law_add) (defBody s_law_add) (defScope s_law_add) [] [] a.law_add fd ∧ FnOk PP w K mg base (L2.CX PP w) 44 a.law_add fd ["a", "b"] (sp (TT K a) φ_law_add) := by
  obtain ⟨fd, F⟩ := H.F_law_add
  refine ⟨fd, F, fn_d F S_law_add fun cdv A outer s H0 E hr => ?_⟩
  exact (sss_one (ss_ret (se_call (c_law_rat H) H.m__law_rat (hr.mono (by decide)) (takes_of rfl rfl rfl rfl) (sa_d (se_bin (o_add rfl) (se_bin o_mul (se_ix rfl (se_v 0) se_int) (se_ix rfl (se_v 1) se_int)) (se_bin o_mul (se_ix rfl (se_v 1) se_int) (se_ix rfl (se_v 0) se_int))) (sa_d (se_bin o_mul (se_ix rfl (se_v 0) se_int) (se_ix rfl (se_v 1) se_int)) sa_0)))))
theorem c_law_add (H : Facts K mg a) : FnC PP w K mg base (TT K a) 44 φ_law_add [] a.law_add := by
  obtain ⟨fd, F, ok⟩ := o_law_add (w := w) (base := base) H
  exact fnc_all F ok fun _ _ _ _ _ _ us h => match us, h with | [_, _], _ => rfl
theorem S_law_mul : FnScope N_law_mul ["a", "b"] (defScope s_law_mul) := ⟨rfl, rfl, rfl, by decide +kernel, rfl, by decide +kernel, by decide +kernel⟩
theorem o_law_mul (H : Facts K mg a) : ∃ fd, FunD K "_law_mul" "_law_mul" (defArgs s_law_mul) (defBody s_law_mul) (defScope s_law_mul) [] [] a.law_mul fd ∧ FnOk PP w K mg base (L2.CX PP w) 44 a.law_mul fd ["a", "b"] (sp (TT K a) φ_law_mul) := by
  obtain ⟨fd, F⟩ := H.F_law_mul
  refine ⟨fd, F, fn_d F S_law_mul fun cdv A outer s H0 E hr => ?_⟩
  exact (sss_one (ss_ret (se_call (c_law_rat H) H.m__law_rat (hr.mono (by decide)) (takes_of rfl rfl rfl rfl) (sa_d (se_bin o_mul (se_ix rfl (se_v 0) se_int) (se_ix rfl (se_v 1) se_int)) (sa_d (se_bin o_mul (se_ix rfl (se_v 0) se_int) (se_ix rfl (se_v 1) se_int)) sa_0)))))
theorem c_law_mul (H : Facts K mg a) : FnC PP w K mg base (TT K a) 44 φ_law_mul [] a.law_mul := by
  obtain ⟨fd, F, ok⟩ := o_law_mul (w := w) (base := base) H
  exact fnc_all F ok fun _ _ _ _ _ _ us h => match us, h with | [_, _], _ => rfl
theorem S_law_is_integer : FnScope N_law_is_integer ["value"] (defScope s_law_is_integer) := ⟨rfl, rfl, rfl, by decide +kernel, rfl, by decide +kernel, by decide +kernel⟩
theorem o_law_is_integer (H : Facts K mg a) : ∃ fd, FunD K "_law_is_integer" "_law_is_integer" (defArgs s_law_is_integer) (defBody s_law_is_integer) (defScope s_law_is_integer) [] [] a.law_is_integer fd ∧ FnOk PP w K mg base (L2.CX PP w) 2 a.law_is_integer fd ["value"] (sp (TT K a) φ_law_is_integer) := by
  obtain ⟨fd, F⟩ := H.F_law_is_integer
  refine ⟨fd, F, fn_d F S_law_is_integer fun cdv A outer s H0 E hr => ?_⟩
  exact (sss_one (ss_ret (se_and (se_isi rfl (isi_c (n := 0) (kit_tys (cs := ["int"]) (by decide +kernel)) (isi_c (n := 1) (kit_tys (cs := ["int"]) (by decide +kernel)) (isi_c (n := 2) (kit_tys (cs := ["int"]) (by decide +kernel)) (isi_c (n := 3) (kit_tys (cs := ["int"]) (by decide +kernel)) (isi_c (n := 4) (kit_tys (cs := ["int"]) (by decide +kernel)) (isi_c (n := 5) (kit_tys (cs := ["int"]) (by decide +kernel)) (isi_o (ci_Ratio H) (cl_Ratio H) H.is_int_Ratio (isi_o (ci_Matrix H) (cl_Matrix H) H.is_int_Matrix isi_0)))))))) (.ty _) (zz H.hG H.z_isinstance) (se_v 0) (pe_bltn (v := .ty "int") rfl (zz H.hG H.z_int) (by decide +kernel : bootBuiltins "int" = some (.type "int")) rfl)) (se_one (se_not (se_isi rfl (isi_c (n := 0) (kit_tys (cs := ["bool"]) (by decide +kernel)) (isi_c (n := 1) (kit_tys (cs := ["bool"]) (by decide +kernel)) (isi_c (n := 2) (kit_tys (cs := ["bool"]) (by decide +kernel)) (isi_c (n := 3) (kit_tys (cs := ["bool"]) (by decide +kernel)) (isi_c (n := 4) (kit_tys (cs := ["bool"]) (by decide +kernel)) (isi_c (n := 5) (kit_tys (cs := ["bool"]) (by decide +kernel)) (isi_o (ci_Ratio H) (cl_Ratio H) H.is_bool_Ratio (isi_o (ci_Matrix H) (cl_Matrix H) H.is_bool_Matrix isi_0)))))))) (.ty _) (zz H.hG H.z_isinstance) (se_v 0) (pe_bltn (v := .ty "bool") rfl (zz H.hG H.z_bool) (by decide +kernel : bootBuiltins "bool" = some (.type "bool")) rfl)))))))
theorem c_law_is_integer (H : Facts K mg a) : FnC PP w K mg base (TT K a) 2 φ_law_is_integer [] a.law_is_integer := by
  obtain ⟨fd, F, ok⟩ := o_law_is_integer (w := w) (base := base) H
  exact fnc_all F ok fun _ _ _ _ _ _ us h => match us, h with | [_], _ => rfl
theorem S_law_pair : FnScope N_law_pair ["value"] (defScope s_law_pair) := ⟨rfl, rfl, rfl, by decide +kernel, rfl, by decide +kernel, by decide +kernel⟩
theorem o_law_pair (H : Facts K mg a) : ∃ fd, FunD K "_law_pair" "_law_pair" (defArgs s_law_pair) (defBody s_law_pair) (defScope s_law_pair) [] [] a.law_pair fd ∧ FnOk PP w K mg base (L2.CX PP w) 5 a.law_pair fd ["value"] (sp (TT K a) φ_law_pair) := by
  obtain ⟨fd, F⟩ := H.F_law_pair
  refine ⟨fd, F, fn_d F S_law_pair fun cdv A outer s H0 E hr => ?_⟩
  exact (sss_cons (ss_if (SW.st (sw_or (st_not (st_tr rfl (se_isi rfl (isi_c (n := 0) H.is_Ratio_0 (isi_c (n := 1) H.is_Ratio_1 (isi_c (n := 2) H.is_Ratio_2 (isi_c (n := 3) H.is_Ratio_3 (isi_c (n := 4) H.is_Ratio_4 (isi_c (n := 5) H.is_Ratio_5 (isi_o (ci_Ratio H) (cl_Ratio H) H.is_Ratio_Ratio (isi_o (ci_Matrix H) (cl_Matrix H) H.is_Ratio_Matrix isi_0)))))))) (.own _) (zz H.hG H.z_isinstance) (se_v 0) (pe_glob rfl H.m_Ratio rfl)))) (sw_or (st_not (st_tr rfl (se_call (c_law_is_integer H) H.m__law_is_integer (hr.mono (by decide)) (takes_of rfl rfl rfl rfl) (sa_d (se_fld (fldF_c (cf_Ratio H) fldF_0) (se_v 0)) sa_0)))) (sw_or1 (st_not (st_tr rfl (se_call (c_law_is_integer H) H.m__law_is_integer (hr.mono (by decide)) (takes_of rfl rfl rfl rfl) (sa_d (se_fld (fldF_c (cf_Ratio H) fldF_0) (se_v 0)) sa_0)))))))) (sss_one (ss_ret se_non)) sss_nil)
(sss_cons (ss_if (SW.st (sw_or (st_cmp rfl o_lt (se_fld (fldF_c (cf_Ratio H) fldF_0) (se_v 0)) se_int (nomark _)) (sw_or1 (st_cmp rfl (o_ne rfl hr.units) (se_call (c_law_gcd H) H.m__law_gcd (hr.mono (by decide)) (takes_of rfl rfl rfl rfl) (sa_d (se_fld (fldF_c (cf_Ratio H) fldF_0) (se_v 0)) (sa_d (se_fld (fldF_c (cf_Ratio H) fldF_0) (se_v 0)) sa_0))) se_int (nomark _))))) (sss_one (ss_ret se_non)) sss_nil)
(sss_one (ss_ret (se_tup (sa_d (se_fld (fldF_c (cf_Ratio H) fldF_0) (se_v 0)) (sa_d (se_fld (fldF_c (cf_Ratio H) fldF_0) (se_v 0)) sa_0)))))))
theorem c_law_pair (H : Facts K mg a) : FnC PP w K mg base (TT K a) 5 φ_law_pair [] a.law_pair := by
  obtain ⟨fd, F, ok⟩ := o_law_pair (w := w) (base := base) H
  exact fnc_all F ok fun _ _ _ _ _ _ us h => match us, h with | [_], _ => rfl
theorem S_law_pairs : FnScope N_law_pairs ["values", "size"] (defScope s_law_pairs) := ⟨rfl, rfl, rfl, by decide +kernel, rfl, by decide +kernel, by decide +kernel⟩
theorem o_law_pairs (H : Facts K mg a) : ∃ fd, FunD K "_law_pairs" "_law_pairs" (defArgs s_law_pairs) (defBody s_law_pairs) (defScope s_law_pairs) [] [] a.law_pairs fd ∧ FnOk PP w K mg base (L2.CX PP w) 8 a.law_pairs fd ["values", "size"] (sp (TT K a) φ_law_pairs) := by
  obtain ⟨fd, F⟩ := H.F_law_pairs
  refine ⟨fd, F, fn_d F S_law_pairs fun cdv A outer s H0 E hr => ?_⟩
  exact (sss_cons (ss_if (SW.st (sw_or (st_not (st_tr rfl (se_isi rfl (isi_c (n := 0) (kit_tys (cs := ["tuple"]) (by decide +kernel)) (isi_c (n := 1) (kit_tys (cs := ["tuple"]) (by decide +kernel)) (isi_c (n := 2) (kit_tys (cs := ["tuple"]) (by decide +kernel)) (isi_c (n := 3) (kit_tys (cs := ["tuple"]) (by decide +kernel)) (isi_c (n := 4) (kit_tys (cs := ["tuple"]) (by decide +kernel)) (isi_c (n := 5) (kit_tys (cs := ["tuple"]) (by decide +kernel)) (isi_o (ci_Ratio H) (cl_Ratio H) H.is_tuple_Ratio (isi_o (ci_Matrix H) (cl_Matrix H) H.is_tuple_Matrix isi_0)))))))) (.ty _) (zz H.hG H.z_isinstance) (se_v 0) (pe_bltn (v := .ty "tuple") rfl (zz H.hG H.z_tuple) (by decide +kernel : bootBuiltins "tuple" = some (.type "tuple")) rfl)))) (sw_or1 (st_cmp rfl (o_ne rfl hr.units) (se_bif (b_len rfl) (zz H.hG H.z_len) (sa_d (se_v 0) sa_0)) (se_v 1) (nomark _))))) (sss_one (ss_ret se_non)) sss_nil)
(sss_cons (ss_setLc (i := 2) rfl S_law_pairs.nd (si_d rfl (se_v 0)) (blkOk_by (N := N_law_pairs) (own := [("value", 3)]) (sc := defScope s_law_pairs) (by decide +kernel)) (fun _ _ _ _ _ => (sg_n (i := 3) S_law_pairs.nd)) (fun _ _ _ _ _ => sts_0) (fun _ _ _ _ _ => (se_call (c_law_pair H) H.m__law_pair (hr.mono (by decide)) takes0 (sa_d (se_v 3) sa_0))))
(sss_one (ss_ret (se_if (st_cmp rfl (o_in rfl (u65 hr)) se_non (se_v 2) rfl) se_non (se_bit (b_tup rfl) (zz H.hG H.z_tuple) (sa_d (se_v 2) sa_0)))))))
theorem c_law_pairs (H : Facts K mg a) : FnC PP w K mg base (TT K a) 8 φ_law_pairs [] a.law_pairs := by
  obtain ⟨fd, F, ok⟩ := o_law_pairs (w := w) (base := base) H
  exact fnc_all F ok fun _ _ _ _ _ _ us h => match us, h with | [_, _], _ => rfl
theorem S_law_ratios : FnScope N_law_ratios ["row"] (defScope s_law_ratios) := ⟨rfl, rfl, rfl, by decide +kernel, rfl, by decide +kernel, by decide +kernel⟩
theorem o_law_ratios (H : Facts K mg a) : ∃ fd, FunD K "_law_ratios" "_law_ratios" (defArgs s_law_ratios) (defBody s_law_ratios) (defScope s_law_ratios) [] [] a.law_ratios fd ∧ FnOk PP w K mg base (L2.CX PP w) 44 a.law_ratios fd ["row"] (sp (TT K a) φ_law_ratios) := by
  obtain ⟨fd, F⟩ := H.F_law_ratios
  refine ⟨fd, F, fn_d F S_law_ratios fun cdv A outer s H0 E hr => ?_⟩
  exact (sss_one (ss_ret (se_bit (b_tup rfl) (zz H.hG H.z_tuple) (sa_d (se_lc rfl S_law_ratios.nd (si_d rfl (se_v 0)) (blkOk_by (N := N_law_ratios) (own := [("q", 1)]) (sc := defScope s_law_ratios) (by decide +kernel)) (fun _ _ _ _ _ => (sg_n (i := 1) S_law_ratios.nd)) (fun _ _ _ _ _ => sts_0) (fun _ _ _ _ _ => (se_make rfl (mk_Ratio H) (c_Ratio_init H) H.m_Ratio (hr.mono (by decide)) takes0 (sa_d (se_ix rfl (se_v 1) se_int) (sa_d (se_ix rfl (se_v 1) se_int) sa_0))))) sa_0))))
theorem c_law_ratios (H : Facts K mg a) : FnC PP w K mg base (TT K a) 44 φ_law_ratios [] a.law_ratios := by
  obtain ⟨fd, F, ok⟩ := o_law_ratios (w := w) (base := base) H
  exact fnc_all F ok fun _ _ _ _ _ _ us h => match us, h with | [_], _ => rfl
theorem S_law_small : FnScope N_law_small ["n", "d"] (defScope s_law_small) := ⟨rfl, rfl, rfl, by decide +kernel, rfl, by decide +kernel, by decide +kernel⟩
theorem o_law_small (H : Facts K mg a) : ∃ fd, FunD K "_law_small" "_law_small" (defArgs s_law_small) (defBody s_law_small) (defScope s_law_small) [] [] a.law_small fd ∧ FnOk PP w K mg base (L2.CX PP w) 44 a.law_small fd ["n", "d"] (sp (TT K a) φ_law_small) := by
  obtain ⟨fd, F⟩ := H.F_law_small
  refine ⟨fd, F, fn_d F S_law_small fun cdv A outer s H0 E hr => ?_⟩
  exact (sss_one (ss_ret (se_call (c_law_rat H) H.m__law_rat (hr.mono (by decide)) (takes_of rfl rfl rfl rfl) (sa_d (se_bin o_subI (se_bin o_modI (se_v 0) se_int) se_int) (sa_d (se_bin (o_add rfl) (se_bin o_modI (se_v 1) se_int) se_int) sa_0)))))
theorem c_law_small (H : Facts K mg a) : FnC PP w K mg base (TT K a) 44 φ_law_small [] a.law_small := by
  obtain ⟨fd, F, ok⟩ := o_law_small (w := w) (base := base) H
  exact fnc_all F ok fun _ _ _ _ _ _ us h => match us, h with | [_, _], _ => rfl
theorem S_law_matrix : FnScope N_law_matrix ["script", "at", "rows", "width"] (defScope s_law_matrix) := ⟨rfl, rfl, rfl, by decide +kernel, rfl, by decide +kernel, by decide +kernel⟩
theorem o_law_matrix (H : Facts K mg a) : ∃ fd, FunD K "_law_matrix" "_law_matrix" (defArgs s_law_matrix) (defBody s_law_matrix) (defScope s_law_matrix) [] [] a.law_matrix fd ∧ FnOk PP w K mg base (L2.CX PP w) 47 a.law_matrix fd ["script", "at", "rows", "width"] (sp (TT K a) φ_law_matrix) := by
  obtain ⟨fd, F⟩ := H.F_law_matrix
  refine ⟨fd, F, fn_d F S_law_matrix fun cdv A outer s H0 E hr => ?_⟩
  exact (sss_cons (ss_set (i := 4) S_law_matrix.nd (se_call (c_law_draws H) H.m__law_draws (hr.mono (by decide)) (takes_of rfl rfl rfl rfl) (sa_d (se_v 0) (sa_d (se_v 1) (sa_d (se_bin (o_add rfl) (se_bin o_mul (se_bin o_mul se_int (se_v 2)) (se_v 3)) se_int) (sa_d se_int sa_0))))))
(sss_cons (ss_setO (i := 5) S_law_matrix.nd (se_lst sa_0))
(sss_cons (ss_for (passes_of rfl) rfl (si_r1 rfl (zz H.hG H.z_range) (sa_d (se_v 2) sa_0)) (sg_n (i := 6) S_law_matrix.nd) (sss_cons (ss_setO (i := 7) S_law_matrix.nd (se_lst sa_0))
(sss_cons (ss_for (passes_of rfl) rfl (si_r1 rfl (zz H.hG H.z_range) (sa_d (se_v 3) sa_0)) (sg_n (i := 8) S_law_matrix.nd) (sss_cons (ss_set (i := 9) S_law_matrix.nd (se_ix rfl (se_v 4) (se_bin (o_add rfl) se_int (se_bin o_mul se_int (se_bin (o_add rfl) (se_bin o_mul (se_v 6) (se_v 3)) (se_v 8))))))
(sss_cons (ss_set (i := 10) S_law_matrix.nd (se_ix rfl (se_v 4) (se_bin (o_add rfl) se_int (se_bin o_mul se_int (se_bin (o_add rfl) (se_bin o_mul (se_v 6) (se_v 3)) (se_v 8))))))
(sss_cons (ss_if (st_cmp rfl (o_eq rfl hr.units) (se_bin o_modI (se_bin (o_add rfl) (se_v 9) (se_ix rfl (se_v 4) se_int)) se_int) se_int (nomark _)) (sss_one (ss_set (i := 9) S_law_matrix.nd se_int)) sss_nil)
(sss_one (ss_expr (se_app 7 (se_call (c_law_small H) H.m__law_small (hr.mono (by decide)) (takes_of rfl rfl rfl rfl) (sa_d (se_v 9) (sa_d (se_v 10) sa_0))))))))))
(sss_one (ss_expr (se_app 5 (se_bit (b_tup rfl) (zz H.hG H.z_tuple) (sa_d (se_v 7) sa_0))))))))
(sss_cons (ss_if (SW.st (sw_and (st_cmp rfl o_gt (se_v 2) se_int (nomark _)) (sw_and1 (st_cmp rfl (o_eq rfl hr.units) (se_bin o_modI (se_ix rfl (se_v 4) se_int) se_int) se_int (nomark _))))) (sss_one (ss_sub 5 (se_ixO 5 se_int) (se_bin o_subI (se_v 2) se_int))) sss_nil)
(sss_one (ss_ret (se_bit (b_tup rfl) (zz H.hG H.z_tuple) (sa_d (se_v 5) sa_0))))))))
theorem c_law_matrix (H : Facts K mg a) : FnC PP w K mg base (TT K a) 47 φ_law_matrix [] a.law_matrix := by
  obtain ⟨fd, F, ok⟩ := o_law_matrix (w := w) (base := base) H
  exact fnc_all F ok fun _ _ _ _ _ _ us h => match us, h with | [_, _, _, _], _ => rfl
theorem S_law_dot : FnScope N_law_dot ["a", "b"] (defScope s_law_dot) := ⟨rfl, rfl, rfl, by decide +kernel, rfl, by decide +kernel, by decide +kernel⟩
theorem o_law_dot (H : Facts K mg a) : ∃ fd, FunD K "_law_dot" "_law_dot" (defArgs s_law_dot) (defBody s_law_dot) (defScope s_law_dot) [] [] a.law_dot fd ∧ FnOk PP w K mg base (L2.CX PP w) 47 a.law_dot fd ["a", "b"] (sp (TT K a) φ_law_dot) := by
  obtain ⟨fd, F⟩ := H.F_law_dot
  refine ⟨fd, F, fn_d F S_law_dot fun cdv A outer s H0 E hr => ?_⟩
  exact (sss_cons (ss_set (i := 2) S_law_dot.nd (se_tup (sa_d se_int (sa_d se_int sa_0))))
(sss_cons (ss_for (passes_of rfl) rfl (si_r1 rfl (zz H.hG H.z_range) (sa_d (se_bif (b_len rfl) (zz H.hG H.z_len) (sa_d (se_v 0) sa_0)) sa_0)) (sg_n (i := 3) S_law_dot.nd) (sss_one (ss_set (i := 2) S_law_dot.nd (se_call (c_law_add H) H.m__law_add (hr.mono (by decide)) (takes_of rfl rfl rfl rfl) (sa_d (se_v 2) (sa_d (se_call (c_law_mul H) H.m__law_mul (hr.mono (by decide)) (takes_of rfl rfl rfl rfl) (sa_d (se_ix rfl (se_v 0) (se_v 3)) (sa_d (se_ix rfl (se_v 1) (se_v 3)) sa_0))) sa_0))))))
(sss_one (ss_ret (se_v 2)))))
theorem c_law_dot (H : Facts K mg a) : FnC PP w K mg base (TT K a) 47 φ_law_dot [] a.law_dot := by
  obtain ⟨fd, F, ok⟩ := o_law_dot (w := w) (base := base) H
  exact fnc_all F ok fun _ _ _ _ _ _ us h => match us, h with | [_, _], _ => rfl
theorem S_law_combine : FnScope N_law_combine ["rows", "width", "y"] (defScope s_law_combine) := ⟨rfl, rfl, rfl, by decide +kernel, rfl, by decide +kernel, by decide +kernel⟩
theorem o_law_combine (H : Facts K mg a) : ∃ fd, FunD K "_law_combine" "_law_combine" (defArgs s_law_combine) (defBody s_law_combine) (defScope s_law_combine) [] [] a.law_combine fd ∧ FnOk PP w K mg base (L2.CX PP w) 47 a.law_combine fd ["rows", "width", "y"] (sp (TT K a) φ_law_combine) := by
  obtain ⟨fd, F⟩ := H.F_law_combine
  refine ⟨fd, F, fn_d F S_law_combine fun cdv A outer s H0 E hr => ?_⟩
  exact (sss_cons (ss_set (i := 3) S_law_combine.nd (se_lc rfl S_law_combine.nd (si_r1 rfl (zz H.hG H.z_range) (sa_d (se_v 1) sa_0)) (blkOk_by (N := N_law_combine) (own := [("k", 4)]) (sc := defScope s_law_combine) (by decide +kernel)) (fun _ _ _ _ _ => (sg_n (i := 4) S_law_combine.nd)) (fun _ _ _ _ _ => sts_0) (fun _ _ _ _ _ => (se_tup (sa_d se_int (sa_d se_int sa_0))))))
(sss_cons (ss_for (passes_of rfl) rfl (si_r1 rfl (zz H.hG H.z_range) (sa_d (se_bif (b_len rfl) (zz H.hG H.z_len) (sa_d (se_v 0) sa_0)) sa_0)) (sg_n (i := 4) S_law_combine.nd) (sss_one (ss_set (i := 3) S_law_combine.nd (se_lc rfl S_law_combine.nd (si_r1 rfl (zz H.hG H.z_range) (sa_d (se_v 1) sa_0)) (blkOk_by (N := N_law_combine) (own := [("j", 5)]) (sc := defScope s_law_combine) (by decide +kernel)) (fun _ _ _ _ _ => (sg_n (i := 5) S_law_combine.nd)) (fun _ _ _ _ _ => sts_0) (fun _ _ _ _ _ => (se_call (c_law_add H) H.m__law_add (hr.mono (by decide)) takes0 (sa_d (se_ix rfl (se_v 3) (se_v 5)) (sa_d (se_call (c_law_mul H) H.m__law_mul (hr.mono (by decide)) takes0 (sa_d (se_ix rfl (se_v 2) (se_v 4)) (sa_d (se_ix rfl (se_ix rfl (se_v 0) (se_v 4)) (se_v 5)) sa_0))) sa_0))))))))
(sss_one (ss_ret (se_bit (b_tup rfl) (zz H.hG H.z_tuple) (sa_d (se_v 3) sa_0))))))
theorem c_law_combine (H : Facts K mg a) : FnC PP w K mg base (TT K a) 47 φ_law_combine [] a.law_combine := by
  obtain ⟨fd, F, ok⟩ := o_law_combine (w := w) (base := base) H
  exact fnc_all F ok fun _ _ _ _ _ _ us h => match us, h with | [_, _, _], _ => rfl
theorem S_Matrix_init : FnScope N_Matrix_init ["self", "rows", "width"] (defScope s_Matrix_init) := ⟨rfl, rfl, rfl, by decide +kernel, rfl, by decide +kernel, by decide +kernel⟩
theorem o_Matrix_init (H : Facts K mg a) : ∃ fd, FunD K "__init__" "Matrix.__init__" (defArgs s_Matrix_init) (defBody s_Matrix_init) (defScope s_Matrix_init) [] [] a.Matrix_init fd ∧ FnOk PP w K mg base (L2.CX PP w) 2 a.Matrix_init fd ["self", "rows", "width"] (sp (TT K a) φ_Matrix_init) := by
  obtain ⟨fd, F⟩ := H.F_Matrix_init
  refine ⟨fd, F, fn_d F S_Matrix_init fun cdv A outer s H0 E hr => ?_⟩
  exact (sss_cons (ss_fld0 (k := 0) 0 (cf_Matrix H) (se_bit (b_tup rfl) (zz H.hG H.z_tuple) (sa_d (se_lc rfl S_Matrix_init.nd (si_d rfl (se_v 1)) (blkOk_by (N := N_Matrix_init) (own := [("row", 3)]) (sc := defScope s_Matrix_init) (by decide +kernel)) (fun _ _ _ _ _ => (sg_n (i := 3) S_Matrix_init.nd)) (fun _ _ _ _ _ => sts_0) (fun _ _ _ _ _ => (se_bit (b_tup rfl) (zz H.hG H.z_tuple) (sa_d (se_v 3) sa_0)))) sa_0)))
(sss_one (ss_fld0 (k := 1) 0 (cf_Matrix H) (se_v 2))))
theorem c_Matrix_init (H : Facts K mg a) : FnC PP w K mg base (TT K a) 2 φ_Matrix_init [] a.Matrix_init := by
  obtain ⟨fd, F, ok⟩ := o_Matrix_init (w := w) (base := base) H
  exact fnc_all F ok fun _ _ _ _ _ _ us h => match us, h with | [_, _, _], _ => rfl
theorem S_law_to_matrix : FnScope N_law_to_matrix ["rows", "width"] (defScope s_law_to_matrix) := ⟨rfl, rfl, rfl, by decide +kernel, rfl, by decide +kernel, by decide +kernel⟩
theorem o_law_to_matrix (H : Facts K mg a) : ∃ fd, FunD K "_law_to_matrix" "_law_to_matrix" (defArgs s_law_to_matrix) (defBody s_law_to_matrix) (defScope s_law_to_matrix) [] [] a.law_to_matrix fd ∧ FnOk PP w K mg base (L2.CX PP w) 47 a.law_to_matrix fd ["rows", "width"] (sp (TT K a) φ_law_to_matrix) := by
  obtain ⟨fd, F⟩ := H.F_law_to_matrix
  refine ⟨fd, F, fn_d F S_law_to_matrix fun cdv A outer s H0 E hr => ?_⟩
  exact (sss_one (ss_ret (se_make rfl (mk_Matrix H) (c_Matrix_init H) H.m_Matrix (hr.mono (by decide)) (takes_of rfl rfl rfl rfl) (sa_d (se_lc rfl S_law_to_matrix.nd (si_d rfl (se_v 0)) (blkOk_by (N := N_law_to_matrix) (own := [("row", 2)]) (sc := defScope s_law_to_matrix) (by decide +kernel)) (fun _ _ _ _ _ => (sg_n (i := 2) S_law_to_matrix.nd)) (fun _ _ _ _ _ => sts_0) (fun _ _ _ _ _ => (se_call (c_law_ratios H) H.m__law_ratios (hr.mono (by decide)) takes0 (sa_d (se_v 2) sa_0)))) (sa_d (se_v 1) sa_0)))))
theorem c_law_to_matrix (H : Facts K mg a) : FnC PP w K mg base (TT K a) 47 φ_law_to_matrix [] a.law_to_matrix := by
  obtain ⟨fd, F, ok⟩ := o_law_to_matrix (w := w) (base := base) H
  exact fnc_all F ok fun _ _ _ _ _ _ us h => match us, h with | [_, _], _ => rfl
theorem S_Matrix_reduced : FnScope N_Matrix_reduced ["self"] (defScope s_Matrix_reduced) := ⟨rfl, rfl, rfl, by decide +kernel, rfl, by decide +kernel, by decide +kernel⟩
theorem o_Matrix_reduced (H : Facts K mg a) : ∃ fd, FunD K "reduced" "Matrix.reduced" (defArgs s_Matrix_reduced) (defBody s_Matrix_reduced) (defScope s_Matrix_reduced) [] [] a.Matrix_reduced fd ∧ FnOk PP w K mg base (L2.CX PP w) 50 a.Matrix_reduced fd ["self"] (sp (TT K a) φ_Matrix_reduced) := by
  obtain ⟨fd, F⟩ := H.F_Matrix_reduced
  refine ⟨fd, F, fn_d F S_Matrix_reduced fun cdv A outer s H0 E hr => ?_⟩
  exact (sss_cons (ss_setLcO (i := 1) rfl S_Matrix_reduced.nd (si_d rfl (se_fld (fldF_c (cf_Matrix H) fldF_0) (se_v 0))) (blkOk_by (N := N_Matrix_reduced) (own := [("row", 2)]) (sc := defScope s_Matrix_reduced) (by decide +kernel)) (fun _ _ _ _ _ => (sg_n (i := 2) S_Matrix_reduced.nd)) (fun _ _ _ _ _ => sts_0) (fun _ _ _ _ _ => (se_bit (b_lst rfl) (zz H.hG H.z_list) (sa_d (se_v 2) sa_0))))
(sss_cons (ss_set (i := 3) S_Matrix_reduced.nd (se_call (c_eliminate H) H.m__eliminate (hr.mono (by decide)) (takes_of rfl rfl rfl rfl) (sa_s 1 (sa_d (se_fld (fldF_c (cf_Matrix H) fldF_0) (se_v 0)) sa_0))))
(sss_one (ss_ret (se_tup (sa_d (se_make rfl (mk_Matrix H) (c_Matrix_init H) H.m_Matrix (hr.mono (by decide)) (takes_of rfl rfl rfl rfl) (sa_d (se_slO 1 so_0 (so_i (se_bif (b_len rfl) (zz H.hG H.z_len) (sa_d (se_v 3) sa_0)))) (sa_d (se_fld (fldF_c (cf_Matrix H) fldF_0) (se_v 0)) sa_0))) (sa_d (se_bit (b_tup rfl) (zz H.hG H.z_tuple) (sa_d (se_v 3) sa_0)) sa_0)))))))
theorem c_Matrix_reduced (H : Facts K mg a) : FnC PP w K mg base (TT K a) 50 φ_Matrix_reduced [] a.Matrix_reduced := by
  obtain ⟨fd, F, ok⟩ := o_Matrix_reduced (w := w) (base := base) H
  exact fnc_all F ok fun _ _ _ _ _ _ us h => match us, h with | [_], _ => rfl
theorem S_Ratio_neg : FnScope N_Ratio_neg ["self"] (defScope s_Ratio_neg) := ⟨rfl, rfl, rfl, by decide +kernel, rfl, by decide +kernel, by decide +kernel⟩
theorem o_Ratio_neg (H : Facts K mg a) : ∃ fd, FunD K "__neg__" "Ratio.__neg__" (defArgs s_Ratio_neg) (defBody s_Ratio_neg) (defScope s_Ratio_neg) [] [] a.Ratio_neg fd ∧ FnOk PP w K mg base (L2.CX PP w) 44 a.Ratio_neg fd ["self"] (sp (TT K a) φ_Ratio_neg) := by
  obtain ⟨fd, F⟩ := H.F_Ratio_neg
  refine ⟨fd, F, fn_d F S_Ratio_neg fun cdv A outer s H0 E hr => ?_⟩
  exact (sss_one (ss_ret (se_make rfl (mk_Ratio H) (c_Ratio_init H) H.m_Ratio (hr.mono (by decide)) (takes_of rfl rfl rfl rfl) (sa_d (se_neg (se_fld (fldF_c (cf_Ratio H) fldF_0) (se_v 0))) (sa_d (se_fld (fldF_c (cf_Ratio H) fldF_0) (se_v 0)) sa_0)))))
theorem c_Ratio_neg (H : Facts K mg a) : FnC PP w K mg base (TT K a) 44 φ_Ratio_neg [] a.Ratio_neg := by
  obtain ⟨fd, F, ok⟩ := o_Ratio_neg (w := w) (base := base) H
  exact fnc_all F ok fun _ _ _ _ _ _ us h => match us, h with | [_], _ => rfl
theorem S_Matrix_kernel : FnScope N_Matrix_kernel ["self"] (defScope s_Matrix_kernel) := ⟨rfl, rfl, rfl, by decide +kernel, rfl, by decide +kernel, by decide +kernel⟩
theorem o_Matrix_kernel (H : Facts K mg a) : ∃ fd, FunD K "kernel" "Matrix.kernel" (defArgs s_Matrix_kernel) (defBody s_Matrix_kernel) (defScope s_Matrix_kernel) [] [] a.Matrix_kernel fd ∧ FnOk PP w K mg base (L2.CX PP w) 53 a.Matrix_kernel fd ["self"] (sp (TT K a) φ_Matrix_kernel) := by
  obtain ⟨fd, F⟩ := H.F_Matrix_kernel
  refine ⟨fd, F, fn_d F S_Matrix_kernel fun cdv A outer s H0 E hr => ?_⟩
  exact (sss_cons (ss_asg (se_meth0 (cf_Matrix H) rfl (show ("reduced" : Str) ∉ (["rows", "width"] : List Str) by decide +kernel) ⟨H.me_Matrix_reduced, H.fn_Matrix_reduced, H.k_Matrix_reduced⟩ (c_Matrix_reduced H) (hr.mono (by decide)) (takes_of rfl rfl rfl rfl) (se_v 0)) (sg_t rfl rfl (sgs_c (sg_n (i := 1) S_Matrix_kernel.nd) (sgs_c (sg_n (i := 2) S_Matrix_kernel.nd) sgs_0))))
(sss_cons (ss_setO (i := 3) S_Matrix_kernel.nd (se_lst sa_0))
(sss_cons (ss_for (passes_of rfl) rfl (si_r1 rfl (zz H.hG H.z_range) (sa_d (se_fld (fldF_c (cf_Matrix H) fldF_0) (se_v 0)) sa_0)) (sg_n (i := 4) S_Matrix_kernel.nd) (sss_cons (ss_if (st_cmp rfl (o_in rfl (u65 hr)) (se_v 4) (se_v 2) rfl) (sss_one ss_continue) sss_nil)
(sss_cons (ss_setO (i := 5) S_Matrix_kernel.nd (se_call (c_unit H) H.m__unit (hr.mono (by decide)) (takes_of rfl rfl rfl rfl) (sa_d (se_fld (fldF_c (cf_Matrix H) fldF_0) (se_v 0)) (sa_d (se_v 4) sa_0))))
(sss_cons (ss_for (passes_of rfl) rfl (si_zip rfl (zz H.hG H.z_zip) (sa_d (se_fld (fldF_c (cf_Matrix H) fldF_0) (se_v 1)) (sa_d (se_v 2) sa_0))) (sg_t rfl rfl (sgs_c (sg_n (i := 6) S_Matrix_kernel.nd) (sgs_c (sg_n (i := 7) S_Matrix_kernel.nd) sgs_0))) (sss_one (ss_sub 5 (se_negM (takes_of rfl rfl rfl rfl) (ownOps_c ⟨⟨_, _, (c_Ratio_neg H), (hr.mono (by decide)), H.op_Ratio_neg, H.fn_Ratio_neg⟩, H.sf_Ratio⟩ ownOps_0) (se_ix rfl (se_v 6) (se_v 4))) (se_v 7))))
(sss_one (ss_expr (se_app 3 (se_bit (b_tup rfl) (zz H.hG H.z_tuple) (sa_d (se_v 5) sa_0)))))))))
(sss_one (ss_ret (se_bit (b_tup rfl) (zz H.hG H.z_tuple) (sa_d (se_v 3) sa_0)))))))
theorem c_Matrix_kernel (H : Facts K mg a) : FnC PP w K mg base (TT K a) 53 φ_Matrix_kernel [] a.Matrix_kernel := by
  obtain ⟨fd, F, ok⟩ := o_Matrix_kernel (w := w) (base := base) H
  exact fnc_all F ok fun _ _ _ _ _ _ us h => match us, h with | [_], _ => rfl
theorem S_Ratio_over : FnScope N_Ratio_over ["self", "other"] (defScope s_Ratio_over) := ⟨rfl, rfl, rfl, by decide +kernel, rfl, by decide +kernel, by decide +kernel⟩
theorem o_Ratio_over (H : Facts K mg a) : ∃ fd, FunD K "over" "Ratio.over" (defArgs s_Ratio_over) (defBody s_Ratio_over) (defScope s_Ratio_over) [] [] a.Ratio_over fd ∧ FnOk PP w K mg base (L2.CX PP w) 44 a.Ratio_over fd ["self", "other"] (sp (TT K a) φ_Ratio_over) := by
  obtain ⟨fd, F⟩ := H.F_Ratio_over
  refine ⟨fd, F, fn_d F S_Ratio_over fun cdv A outer s H0 E hr => ?_⟩
  exact (sss_one (ss_ret (se_make rfl (mk_Ratio H) (c_Ratio_init H) H.m_Ratio (hr.mono (by decide)) (takes_of rfl rfl rfl rfl) (sa_d (se_bin o_mul (se_fld (fldF_c (cf_Ratio H) fldF_0) (se_v 0)) (se_fld (fldF_c (cf_Ratio H) fldF_0) (se_v 1))) (sa_d (se_bin o_mul (se_fld (fldF_c (cf_Ratio H) fldF_0) (se_v 0)) (se_fld (fldF_c (cf_Ratio H) fldF_0) (se_v 1))) sa_0)))))
theorem c_Ratio_over (H : Facts K mg a) : FnC PP w K mg base (TT K a) 44 φ_Ratio_over [] a.Ratio_over := by
  obtain ⟨fd, F, ok⟩ := o_Ratio_over (w := w) (base := base) H
  exact fnc_all F ok fun _ _ _ _ _ _ us h => match us, h with | [_, _], _ => rfl
theorem S_Matrix_solve : FnScope N_Matrix_solve ["self", "right"] (defScope s_Matrix_solve) := ⟨rfl, rfl, rfl, by decide +kernel, rfl, by decide +kernel, by decide +kernel⟩
theorem o_Matrix_solve (H : Facts K mg a) : ∃ fd, FunD K "solve" "Matrix.solve" (defArgs s_Matrix_solve) (defBody s_Matrix_solve) (defScope s_Matrix_solve) [] [] a.Matrix_solve fd ∧ FnOk PP w K mg base (L2.CX PP w) 50 a.Matrix_solve fd ["self", "right"] (sp (TT K a) φ_Matrix_solve) := by
  obtain ⟨fd, F⟩ := H.F_Matrix_solve
  refine ⟨fd, F, fn_d F S_Matrix_solve fun cdv A outer s H0 E hr => ?_⟩
  exact (sss_cons (ss_set (i := 2) S_Matrix_solve.nd (se_bif (b_len rfl) (zz H.hG H.z_len) (sa_d (se_fld (fldF_c (cf_Matrix H) fldF_0) (se_v 0)) sa_0)))
(sss_cons (ss_setLcO (i := 3) rfl S_Matrix_solve.nd (si_r1 rfl (zz H.hG H.z_range) (sa_d (se_v 2) sa_0)) (blkOk_by (N := N_Matrix_solve) (own := [("k", 4)]) (sc := defScope s_Matrix_solve) (by decide +kernel)) (fun _ _ _ _ _ => (sg_n (i := 4) S_Matrix_solve.nd)) (fun _ _ _ _ _ => sts_0) (fun _ _ _ _ _ => (se_bin (o_add rfl) (se_bin (o_add rfl) (se_bit (b_lst rfl) (zz H.hG H.z_list) (sa_d (se_ix rfl (se_fld (fldF_c (cf_Matrix H) fldF_0) (se_v 0)) (se_v 4)) sa_0)) (se_lst (sa_d (se_ix rfl (se_v 1) (se_v 4)) sa_0))) (se_call (c_unit H) H.m__unit (hr.mono (by decide)) takes0 (sa_d (se_v 2) (sa_d (se_v 4) sa_0))))))
(sss_cons (ss_set (i := 5) S_Matrix_solve.nd (se_call (c_eliminate H) H.m__eliminate (hr.mono (by decide)) (takes_of rfl rfl rfl rfl) (sa_s 3 (sa_d (se_fld (fldF_c (cf_Matrix H) fldF_0) (se_v 0)) sa_0))))
(sss_cons (ss_for (passes_of rfl) rfl (si_d rfl (se_slO 3 (so_i (se_bif (b_len rfl) (zz H.hG H.z_len) (sa_d (se_v 5) sa_0))) so_0)) (sg_n (i := 6) S_Matrix_solve.nd) (sss_one (ss_if (st_cmp rfl (o_ne rfl hr.units) (se_fld (fldF_c (cf_Ratio H) fldF_0) (se_ix rfl (se_v 6) (se_fld (fldF_c (cf_Matrix H) fldF_0) (se_v 0)))) se_int (nomark _)) (sss_one (ss_ret (se_tup (sa_d se_str (sa_d (se_bit (b_tup rfl) (zz H.hG H.z_tuple) (sa_d (se_lc rfl S_Matrix_solve.nd (si_d rfl (se_sl rfl (se_v 6) (so_i (se_bin (o_add rfl) (se_fld (fldF_c (cf_Matrix H) fldF_0) (se_v 0)) se_int)) so_0)) (blkOk_by (N := N_Matrix_solve) (own := [("item", 7)]) (sc := defScope s_Matrix_solve) (by decide +kernel)) (fun _ _ _ _ _ => (sg_n (i := 7) S_Matrix_solve.nd)) (fun _ _ _ _ _ => sts_0) (fun _ _ _ _ _ => (se_meth (cf_Ratio H) rfl (show ("over" : Str) ∉ (["n", "d"] : List Str) by decide +kernel) ⟨H.me_Ratio_over, H.fn_Ratio_over, H.k_Ratio_over⟩ (c_Ratio_over H) (hr.mono (by decide)) takes0 (se_v 7) (sa_d (se_ix rfl (se_v 6) (se_fld (fldF_c (cf_Matrix H) fldF_0) (se_v 0))) sa_0)))) sa_0)) sa_0))))) sss_nil)))
(sss_cons (ss_setLcO (i := 8) rfl S_Matrix_solve.nd (si_r1 rfl (zz H.hG H.z_range) (sa_d (se_fld (fldF_c (cf_Matrix H) fldF_0) (se_v 0)) sa_0)) (blkOk_by (N := N_Matrix_solve) (own := [("_", 9)]) (sc := defScope s_Matrix_solve) (by decide +kernel)) (fun _ _ _ _ _ => (sg_n (i := 9) S_Matrix_solve.nd)) (fun _ _ _ _ _ => sts_0) (fun _ _ _ _ _ => (se_make rfl (mk_Ratio H) (c1_Ratio_init H) H.m_Ratio (hr.mono (by decide)) takes0 (sa_d se_int sa_0))))
(sss_cons (ss_for (passes_of rfl) rfl (si_zip rfl (zz H.hG H.z_zip) (sa_d (se_v 3) (sa_d (se_v 5) sa_0))) (sg_t rfl rfl (sgs_c (sg_n (i := 6) S_Matrix_solve.nd) (sgs_c (sg_n (i := 10) S_Matrix_solve.nd) sgs_0))) (sss_one (ss_sub 8 (se_ix rfl (se_v 6) (se_fld (fldF_c (cf_Matrix H) fldF_0) (se_v 0))) (se_v 10))))
(sss_one (ss_ret (se_tup (sa_d se_str (sa_d (se_bit (b_tup rfl) (zz H.hG H.z_tuple) (sa_d (se_v 8) sa_0)) sa_0)))))))))))
theorem c_Matrix_solve (H : Facts K mg a) : FnC PP w K mg base (TT K a) 50 φ_Matrix_solve [] a.Matrix_solve := by
  obtain ⟨fd, F, ok⟩ := o_Matrix_solve (w := w) (base := base) H
  exact fnc_all F ok fun _ _ _ _ _ _ us h => match us, h with | [_, _], _ => rfl
theorem S_law : FnScope N_law ["script"] (defScope s_law) := ⟨rfl, rfl, rfl, by decide +kernel, rfl, by decide +kernel, by decide +kernel⟩
theorem o_law (H : Facts K mg a) : ∃ fd, FunD K "law" "law" (defArgs s_law) (defBody s_law) (defScope s_law) [] [] a.law fd ∧ FnOk PP w K mg base (L2.CX PP w) 56 a.law fd ["script"] (sp (TT K a) φ_law) := by
  obtain ⟨fd, F⟩ := H.F_law
  refine ⟨fd, F, fn_d F S_law fun cdv A outer s H0 E hr => ?_⟩
  exact (sss_cons (ss_set (i := 1) S_law.nd (se_call (c_law_draws H) H.m__law_draws (hr.mono (by decide)) (takes_of rfl rfl rfl rfl) (sa_d (se_v 0) (sa_d se_int (sa_d se_int (sa_d se_int sa_0))))))
(sss_cons (ss_set (i := 2) S_law.nd (se_bin o_modI (se_ix rfl (se_v 1) se_int) se_int))
(sss_cons (ss_set (i := 3) S_law.nd (se_bin o_modI (se_bin (o_div ⟨H.sk, rfl, ⟨_, _, rfl, rfl, rfl, rfl, rfl⟩, (hr.mono (by decide))⟩) (se_ix rfl (se_v 1) se_int) se_int) se_int))
(sss_cons (ss_set (i := 4) S_law.nd (se_call (c_law_matrix H) H.m__law_matrix (hr.mono (by decide)) (takes_of rfl rfl rfl rfl) (sa_d (se_v 0) (sa_d se_int (sa_d (se_v 2) (sa_d (se_v 3) sa_0))))))
(sss_cons (ss_set (i := 5) S_law.nd (se_call (c_law_to_matrix H) H.m__law_to_matrix (hr.mono (by decide)) (takes_of rfl rfl rfl rfl) (sa_d (se_v 4) (sa_d (se_v 3) sa_0))))
(sss_cons (ss_set (i := 6) S_law.nd (se_meth0 (cf_Matrix H) rfl (show ("kernel" : Str) ∉ (["rows", "width"] : List Str) by decide +kernel) ⟨H.me_Matrix_kernel, H.fn_Matrix_kernel, H.k_Matrix_kernel⟩ (c_Matrix_kernel H) (hr.mono (by decide)) (takes_of rfl rfl rfl rfl) (se_v 5)))
(sss_cons (ss_set (i := 7) S_law.nd (se_ix rfl (se_meth0 (cf_Matrix H) rfl (show ("reduced" : Str) ∉ (["rows", "width"] : List Str) by decide +kernel) ⟨H.me_Matrix_reduced, H.fn_Matrix_reduced, H.k_Matrix_reduced⟩ (c_Matrix_reduced H) (hr.mono (by decide)) (takes_of rfl rfl rfl rfl) (se_v 5)) se_int))
(sss_cons (ss_setLc (i := 8) rfl S_law.nd (si_r1 rfl (zz H.hG H.z_range) (sa_d (se_v 3) sa_0)) (blkOk_by (N := N_law) (own := [("k", 9)]) (sc := defScope s_law) (by decide +kernel)) (fun _ _ _ _ _ => (sg_n (i := 9) S_law.nd)) (fun _ _ _ _ _ => (sts_1 (st_cmp rfl (o_nin rfl (u65 hr)) (se_v 9) (se_v 7) rfl))) (fun _ _ _ _ _ => (se_v 9)))
(sss_cons (ss_if (SW.st (sw_or (st_not (st_tr rfl (se_isi rfl (isi_c (n := 0) (kit_tys (cs := ["tuple"]) (by decide +kernel)) (isi_c (n := 1) (kit_tys (cs := ["tuple"]) (by decide +kernel)) (isi_c (n := 2) (kit_tys (cs := ["tuple"]) (by decide +kernel)) (isi_c (n := 3) (kit_tys (cs := ["tuple"]) (by decide +kernel)) (isi_c (n := 4) (kit_tys (cs := ["tuple"]) (by decide +kernel)) (isi_c (n := 5) (kit_tys (cs := ["tuple"]) (by decide +kernel)) (isi_o (ci_Ratio H) (cl_Ratio H) H.is_tuple_Ratio (isi_o (ci_Matrix H) (cl_Matrix H) H.is_tuple_Matrix isi_0)))))))) (.ty _) (zz H.hG H.z_isinstance) (se_v 6) (pe_bltn (v := .ty "tuple") rfl (zz H.hG H.z_tuple) (by decide +kernel : bootBuiltins "tuple" = some (.type "tuple")) rfl)))) (sw_or1 (st_cmp rfl (o_ne rfl hr.units) (se_bif (b_len rfl) (zz H.hG H.z_len) (sa_d (se_v 6) sa_0)) (se_bif (b_len rfl) (zz H.hG H.z_len) (sa_d (se_v 8) sa_0)) (nomark _))))) (sss_one (ss_ret se_bl)) sss_nil)
(sss_cons (ss_setLc (i := 10) rfl S_law.nd (si_d rfl (se_v 6)) (blkOk_by (N := N_law) (own := [("v", 11)]) (sc := defScope s_law) (by decide +kernel)) (fun _ _ _ _ _ => (sg_n (i := 11) S_law.nd)) (fun _ _ _ _ _ => sts_0) (fun _ _ _ _ _ => (se_call (c_law_pairs H) H.m__law_pairs (hr.mono (by decide)) takes0 (sa_d (se_v 11) (sa_d (se_v 3) sa_0)))))
(sss_cons (ss_for (passes_of rfl) rfl (si_r1 rfl (zz H.hG H.z_range) (sa_d (se_bif (b_len rfl) (zz H.hG H.z_len) (sa_d (se_v 8) sa_0)) sa_0)) (sg_n (i := 12) S_law.nd) (sss_cons (ss_if (st_cmp rfl o_isN (se_ix rfl (se_v 10) (se_v 12)) se_non (nomark _)) (sss_one (ss_ret se_bl)) sss_nil)
(sss_cons (ss_for (passes_of rfl) rfl (si_r1 rfl (zz H.hG H.z_range) (sa_d (se_bif (b_len rfl) (zz H.hG H.z_len) (sa_d (se_v 8) sa_0)) sa_0)) (sg_n (i := 9) S_law.nd) (sss_one (ss_if (st_cmp rfl (o_ne rfl hr.units) (se_ix rfl (se_ix rfl (se_v 10) (se_v 12)) (se_ix rfl (se_v 8) (se_v 9))) (se_tup (sa_d (se_bit b_int (zz H.hG H.z_int) (sa_d (se_cmp (o_eq rfl hr.units) (se_v 9) (se_v 12) (nomark _)) sa_0)) (sa_d se_int sa_0))) (nomark _)) (sss_one (ss_ret se_bl)) sss_nil)))
(sss_one (ss_for (passes_of rfl) rfl (si_d rfl (se_v 4)) (sg_n (i := 13) S_law.nd) (sss_one (ss_if (st_cmp rfl (o_ne rfl hr.units) (se_call (c_law_dot H) H.m__law_dot (hr.mono (by decide)) (takes_of rfl rfl rfl rfl) (sa_d (se_v 13) (sa_d (se_ix rfl (se_v 10) (se_v 12)) sa_0))) (se_tup (sa_d se_int (sa_d se_int sa_0))) (nomark _)) (sss_one (ss_ret se_bl)) sss_nil)))))))
(sss_cons (ss_set (i := 14) S_law.nd (se_call (c_law_draws H) H.m__law_draws (hr.mono (by decide)) (takes_of rfl rfl rfl rfl) (sa_d (se_v 0) (sa_d se_int (sa_d (se_bin o_mul se_int (se_v 3)) (sa_d se_int sa_0))))))
(sss_cons (ss_set (i := 15) S_law.nd (se_lc rfl S_law.nd (si_r1 rfl (zz H.hG H.z_range) (sa_d (se_v 3) sa_0)) (blkOk_by (N := N_law) (own := [("k", 9)]) (sc := defScope s_law) (by decide +kernel)) (fun _ _ _ _ _ => (sg_n (i := 9) S_law.nd)) (fun _ _ _ _ _ => sts_0) (fun _ _ _ _ _ => (se_call (c_law_small H) H.m__law_small (hr.mono (by decide)) takes0 (sa_d (se_ix rfl (se_v 14) (se_bin o_mul se_int (se_v 9))) (sa_d (se_ix rfl (se_v 14) (se_bin (o_add rfl) (se_bin o_mul se_int (se_v 9)) se_int)) sa_0))))))
(sss_cons (ss_asg (se_meth (cf_Matrix H) rfl (show ("solve" : Str) ∉ (["rows", "width"] : List Str) by decide +kernel) ⟨H.me_Matrix_solve, H.fn_Matrix_solve, H.k_Matrix_solve⟩ (c_Matrix_solve H) (hr.mono (by decide)) (takes_of rfl rfl rfl rfl) (se_v 5) (sa_d (se_call (c_law_ratios H) H.m__law_ratios (hr.mono (by decide)) (takes_of rfl rfl rfl rfl) (sa_d (se_lc rfl S_law.nd (si_d rfl (se_v 4)) (blkOk_by (N := N_law) (own := [("line", 13)]) (sc := defScope s_law) (by decide +kernel)) (fun _ _ _ _ _ => (sg_n (i := 13) S_law.nd)) (fun _ _ _ _ _ => sts_0) (fun _ _ _ _ _ => (se_call (c_law_dot H) H.m__law_dot (hr.mono (by decide)) takes0 (sa_d (se_v 13) (sa_d (se_v 15) sa_0))))) sa_0)) sa_0)) (sg_t rfl rfl (sgs_c (sg_n (i := 16) S_law.nd) (sgs_c (sg_n (i := 17) S_law.nd) sgs_0))))
(sss_cons (ss_set (i := 17) S_law.nd (se_call (c_law_pairs H) H.m__law_pairs (hr.mono (by decide)) (takes_of rfl rfl rfl rfl) (sa_d (se_v 17) (sa_d (se_v 3) sa_0))))
(sss_cons (ss_if (SW.st (sw_or (st_cmp rfl (o_ne rfl hr.units) (se_v 16) se_str (nomark _)) (sw_or1 (st_cmp rfl o_isN (se_v 17) se_non (nomark _))))) (sss_one (ss_ret se_bl)) sss_nil)
(sss_cons (ss_set (i := 18) S_law.nd (se_bit (b_tup rfl) (zz H.hG H.z_tuple) (sa_d (se_lc rfl S_law.nd (si_r1 rfl (zz H.hG H.z_range) (sa_d (se_v 3) sa_0)) (blkOk_by (N := N_law) (own := [("k", 9)]) (sc := defScope s_law) (by decide +kernel)) (fun _ _ _ _ _ => (sg_n (i := 9) S_law.nd)) (fun _ _ _ _ _ => sts_0) (fun _ _ _ _ _ => (se_call (c_law_add H) H.m__law_add (hr.mono (by decide)) takes0 (sa_d (se_ix rfl (se_v 15) (se_v 9)) (sa_d (se_tup (sa_d (se_neg (se_ix rfl (se_ix rfl (se_v 17) (se_v 9)) se_int)) (sa_d (se_ix rfl (se_ix rfl (se_v 17) (se_v 9)) se_int) sa_0))) sa_0))))) sa_0)))
(sss_one (ss_ret (se_cmp (o_eq rfl hr.units) (se_call (c_law_combine H) H.m__law_combine (hr.mono (by decide)) (takes_of rfl rfl rfl rfl) (sa_d (se_v 10) (sa_d (se_v 3) (sa_d (se_lc rfl S_law.nd (si_d rfl (se_v 8)) (blkOk_by (N := N_law) (own := [("k", 9)]) (sc := defScope s_law) (by decide +kernel)) (fun _ _ _ _ _ => (sg_n (i := 9) S_law.nd)) (fun _ _ _ _ _ => sts_0) (fun _ _ _ _ _ => (se_ix rfl (se_v 18) (se_v 9)))) sa_0)))) (se_v 18) (nomark _)))))))))))))))))))))
theorem c_law (H : Facts K mg a) : FnC PP w K mg base (TT K a) 56 φ_law [] a.law := by
  obtain ⟨fd, F, ok⟩ := o_law (w := w) (base := base) H
  exact fnc_all F ok fun _ _ _ _ _ _ us h => match us, h with | [_], _ => rfl
end
theorem all_mk {K : PySem.W.Frag} {w : World} {fa : Addr} {h : Heap} {mg : Str → Option Value} (KX : K.In h) (G : h.Ns mainGlobals mg) (hmg : mg "law" = some (.ref fa))
    {A_Ratio_init A_unit A_Ratio_sub A_Ratio_mul A_Ratio_inverse A_eliminate A_law_cell A_law_draws A_law_gcd A_law_rat A_law_add A_law_mul A_law_is_integer A_law_pair A_law_pairs A_law_ratios A_law_small A_law_matrix A_law_dot A_law_combine A_Matrix_init A_law_to_matrix A_Matrix_reduced A_Ratio_neg A_Matrix_kernel A_Ratio_over A_Matrix_solve A_law A_Fault A_ZeroDivisor A_Ratio A_Matrix : Addr}
    {oc_Ratio_init kV_Ratio_init dc_Ratio_init pm_Ratio_init cd_Ratio_init ct_Ratio_init oc_unit kV_unit dc_unit pm_unit cd_unit ct_unit oc_Ratio_sub kV_Ratio_sub dc_Ratio_sub pm_Ratio_sub cd_Ratio_sub ct_Ratio_sub oc_Ratio_mul kV_Ratio_mul dc_Ratio_mul pm_Ratio_mul cd_Ratio_mul ct_Ratio_mul oc_Ratio_inverse kV_Ratio_inverse dc_Ratio_inverse pm_Ratio_inverse cd_Ratio_inverse ct_Ratio_inverse oc_eliminate kV_eliminate dc_eliminate pm_eliminate cd_eliminate ct_eliminate oc_law_cell kV_law_cell dc_law_cell pm_law_cell cd_law_cell ct_law_cell oc_law_draws kV_law_draws dc_law_draws pm_law_draws cd_law_draws ct_law_draws oc_law_gcd kV_law_gcd dc_law_gcd pm_law_gcd cd_law_gcd ct_law_gcd oc_law_rat kV_law_rat dc_law_rat pm_law_rat cd_law_rat ct_law_rat oc_law_add kV_law_add dc_law_add pm_law_add cd_law_add ct_law_add oc_law_mul kV_law_mul dc_law_mul pm_law_mul cd_law_mul ct_law_mul oc_law_is_integer kV_law_is_integer dc_law_is_integer pm_law_is_integer cd_law_is_integer ct_law_is_integer oc_law_pair kV_law_pair dc_law_pair pm_law_pair cd_law_pair ct_law_pair oc_law_pairs kV_law_pairs dc_law_pairs pm_law_pairs cd_law_pairs ct_law_pairs oc_law_ratios kV_law_ratios dc_law_ratios pm_law_ratios cd_law_ratios ct_law_ratios oc_law_small kV_law_small dc_law_small pm_law_small cd_law_small ct_law_small oc_law_matrix kV_law_matrix dc_law_matrix pm_law_matrix cd_law_matrix ct_law_matrix oc_law_dot kV_law_dot dc_law_dot pm_law_dot cd_law_dot ct_law_dot oc_law_combine kV_law_combine dc_law_combine pm_law_combine cd_law_combine ct_law_combine oc_Matrix_init kV_Matrix_init dc_Matrix_init pm_Matrix_init cd_Matrix_init ct_Matrix_init oc_law_to_matrix kV_law_to_matrix dc_law_to_matrix pm_law_to_matrix cd_law_to_matrix ct_law_to_matrix oc_Matrix_reduced kV_Matrix_reduced dc_Matrix_reduced pm_Matrix_reduced cd_Matrix_reduced ct_Matrix_reduced oc_Ratio_neg kV_Ratio_neg dc_Ratio_neg pm_Ratio_neg cd_Ratio_neg ct_Ratio_neg oc_Matrix_kernel kV_Matrix_kernel dc_Matrix_kernel pm_Matrix_kernel cd_Matrix_kernel ct_Matrix_kernel oc_Ratio_over kV_Ratio_over dc_Ratio_over pm_Ratio_over cd_Ratio_over ct_Ratio_over oc_Matrix_solve kV_Matrix_solve dc_Matrix_solve pm_Matrix_solve cd_Matrix_solve ct_Matrix_solve oc_law kV_law dc_law pm_law cd_law ct_law : Value} {od_Ratio_init an_Ratio_init od_unit an_unit od_Ratio_sub an_Ratio_sub od_Ratio_mul an_Ratio_mul od_Ratio_inverse an_Ratio_inverse od_eliminate an_eliminate od_law_cell an_law_cell od_law_draws an_law_draws od_law_gcd an_law_gcd od_law_rat an_law_rat od_law_add an_law_add od_law_mul an_law_mul od_law_is_integer an_law_is_integer od_law_pair an_law_pair od_law_pairs an_law_pairs od_law_ratios an_law_ratios od_law_small an_law_small od_law_matrix an_law_matrix od_law_dot an_law_dot od_law_combine an_law_combine od_Matrix_init an_Matrix_init od_law_to_matrix an_law_to_matrix od_Matrix_reduced an_Matrix_reduced od_Ratio_neg an_Ratio_neg od_Matrix_kernel an_Matrix_kernel od_Ratio_over an_Ratio_over od_Matrix_solve an_Matrix_solve od_law an_law : Option Addr} {sl_Ratio_init sl_unit sl_Ratio_sub sl_Ratio_mul sl_Ratio_inverse sl_eliminate sl_law_cell sl_law_draws sl_law_gcd sl_law_rat sl_law_add sl_law_mul sl_law_is_integer sl_law_pair sl_law_pairs sl_law_ratios sl_law_small sl_law_matrix sl_law_dot sl_law_combine sl_Matrix_init sl_law_to_matrix sl_Matrix_reduced sl_Ratio_neg sl_Matrix_kernel sl_Ratio_over sl_Matrix_solve sl_law : Array (Option Value)}
    {D_Ratio_init : Addr} {ocd_Ratio_init : Value} {odd_Ratio_init : Option Addr} {sld_Ratio_init : Array (Option Value)} {its_Ratio_init : List Value} {nd_Ratio_init : Nat}
    {bm : Addr} {ob : Data} {slb sl2 : Array (Option Value)} {cb : Value} {db : Option Addr} {es : Array DictEntry} {nb : Nat} (s1 : PySem.W.nsIn K cStatics "sys.audit-hooks" = some none) (s2 : PySem.W.nsIn K cStatics "sys.dict" = some none) (s3 : PySem.W.nsIn K sysModules "_pylong" = some none)
    (s4 : K.lookup sysModules = some ⟨cb, db, .dict es nb, sl2⟩) (s5 : (es.toList.all fun e => match e.key with | .str _ _ => true | _ => false) = true) (s6 : PySem.W.nsIn K mainGlobals "__builtins__" = some (some (.ref bm))) (s7 : K.lookup bm = some ⟨.type "module", some builtinsNs, ob, slb⟩)
    (h_m__unit : PySem.W.nsIn K mainGlobals "_unit" = some (some (.ref A_unit)))
    (h_m__eliminate : PySem.W.nsIn K mainGlobals "_eliminate" = some (some (.ref A_eliminate)))
    (h_m__law_cell : PySem.W.nsIn K mainGlobals "_law_cell" = some (some (.ref A_law_cell)))
    (h_m__law_draws : PySem.W.nsIn K mainGlobals "_law_draws" = some (some (.ref A_law_draws)))
    (h_m__law_gcd : PySem.W.nsIn K mainGlobals "_law_gcd" = some (some (.ref A_law_gcd)))
    (h_m__law_rat : PySem.W.nsIn K mainGlobals "_law_rat" = some (some (.ref A_law_rat)))
    (h_m__law_add : PySem.W.nsIn K mainGlobals "_law_add" = some (some (.ref A_law_add)))
    (h_m__law_mul : PySem.W.nsIn K mainGlobals "_law_mul" = some (some (.ref A_law_mul)))
    (h_m__law_is_integer : PySem.W.nsIn K mainGlobals "_law_is_integer" = some (some (.ref A_law_is_integer)))
    (h_m__law_pair : PySem.W.nsIn K mainGlobals "_law_pair" = some (some (.ref A_law_pair)))
    (h_m__law_pairs : PySem.W.nsIn K mainGlobals "_law_pairs" = some (some (.ref A_law_pairs)))
    (h_m__law_ratios : PySem.W.nsIn K mainGlobals "_law_ratios" = some (some (.ref A_law_ratios)))
    (h_m__law_small : PySem.W.nsIn K mainGlobals "_law_small" = some (some (.ref A_law_small)))
    (h_m__law_matrix : PySem.W.nsIn K mainGlobals "_law_matrix" = some (some (.ref A_law_matrix)))
    (h_m__law_dot : PySem.W.nsIn K mainGlobals "_law_dot" = some (some (.ref A_law_dot)))
    (h_m__law_combine : PySem.W.nsIn K mainGlobals "_law_combine" = some (some (.ref A_law_combine)))
    (h_m__law_to_matrix : PySem.W.nsIn K mainGlobals "_law_to_matrix" = some (some (.ref A_law_to_matrix)))
    (h_m_law : PySem.W.nsIn K mainGlobals "law" = some (some (.ref A_law)))
    (h_m_Fault : PySem.W.nsIn K mainGlobals "Fault" = some (some (.ref A_Fault)))
    (h_m_ZeroDivisor : PySem.W.nsIn K mainGlobals "ZeroDivisor" = some (some (.ref A_ZeroDivisor)))
    (h_m_Ratio : PySem.W.nsIn K mainGlobals "Ratio" = some (some (.ref A_Ratio)))
    (h_m_Matrix : PySem.W.nsIn K mainGlobals "Matrix" = some (some (.ref A_Matrix)))
    (h_m_gcd : PySem.W.nsIn K mainGlobals "gcd" = some (some (.builtin "math.gcd")))
    (h_z_range : PySem.W.nsIn K mainGlobals "range" = some none)
    (h_z_int : PySem.W.nsIn K mainGlobals "int" = some none)
    (h_z_len : PySem.W.nsIn K mainGlobals "len" = some none)
    (h_z_zip : PySem.W.nsIn K mainGlobals "zip" = some none)
    (h_z_abs : PySem.W.nsIn K mainGlobals "abs" = some none)
    (h_z_isinstance : PySem.W.nsIn K mainGlobals "isinstance" = some none)
    (h_z_bool : PySem.W.nsIn K mainGlobals "bool" = some none)
    (h_z_tuple : PySem.W.nsIn K mainGlobals "tuple" = some none)
    (h_z_list : PySem.W.nsIn K mainGlobals "list" = some none)
    (h_in_Matrix : PySem.W.findIn K (.ref A_Matrix) "__init__" = some (some (.ref A_Matrix_init)))
    (h_in_Ratio : PySem.W.findIn K (.ref A_Ratio) "__init__" = some (some (.ref A_Ratio_init)))
    (h_op_Ratio_mul : PySem.W.findIn K (.ref A_Ratio) "__mul__" = some (some (.ref A_Ratio_mul)))
    (h_op_Ratio_sub : PySem.W.findIn K (.ref A_Ratio) "__sub__" = some (some (.ref A_Ratio_sub)))
    (h_me_Ratio_inverse : PySem.W.findIn K (.ref A_Ratio) "inverse" = some (some (.ref A_Ratio_inverse)))
    (h_op_Ratio_neg : PySem.W.findIn K (.ref A_Ratio) "__neg__" = some (some (.ref A_Ratio_neg)))
    (h_me_Matrix_reduced : PySem.W.findIn K (.ref A_Matrix) "reduced" = some (some (.ref A_Matrix_reduced)))
    (h_me_Ratio_over : PySem.W.findIn K (.ref A_Ratio) "over" = some (some (.ref A_Ratio_over)))
    (h_me_Matrix_solve : PySem.W.findIn K (.ref A_Matrix) "solve" = some (some (.ref A_Matrix_solve)))
    (h_me_Matrix_kernel : PySem.W.findIn K (.ref A_Matrix) "kernel" = some (some (.ref A_Matrix_kernel)))
    (h_l_Ratio_init : K.lookup A_Ratio_init = some ⟨oc_Ratio_init, od_Ratio_init, .func (PySem.W.fnOf "__init__" "Ratio.__init__" (defArgs s_Ratio_init) (defBody s_Ratio_init) (defScope s_Ratio_init) (.ref D_Ratio_init) kV_Ratio_init dc_Ratio_init pm_Ratio_init an_Ratio_init cd_Ratio_init ct_Ratio_init), sl_Ratio_init⟩)
    (h_l_unit : K.lookup A_unit = some ⟨oc_unit, od_unit, .func (PySem.W.fnOf "_unit" "_unit" (defArgs s_unit) (defBody s_unit) (defScope s_unit) .none kV_unit dc_unit pm_unit an_unit cd_unit ct_unit), sl_unit⟩)
    (h_l_Ratio_sub : K.lookup A_Ratio_sub = some ⟨oc_Ratio_sub, od_Ratio_sub, .func (PySem.W.fnOf "__sub__" "Ratio.__sub__" (defArgs s_Ratio_sub) (defBody s_Ratio_sub) (defScope s_Ratio_sub) .none kV_Ratio_sub dc_Ratio_sub pm_Ratio_sub an_Ratio_sub cd_Ratio_sub ct_Ratio_sub), sl_Ratio_sub⟩)
    (h_l_Ratio_mul : K.lookup A_Ratio_mul = some ⟨oc_Ratio_mul, od_Ratio_mul, .func (PySem.W.fnOf "__mul__" "Ratio.__mul__" (defArgs s_Ratio_mul) (defBody s_Ratio_mul) (defScope s_Ratio_mul) .none kV_Ratio_mul dc_Ratio_mul pm_Ratio_mul an_Ratio_mul cd_Ratio_mul ct_Ratio_mul), sl_Ratio_mul⟩)
    (h_l_Ratio_inverse : K.lookup A_Ratio_inverse = some ⟨oc_Ratio_inverse, od_Ratio_inverse, .func (PySem.W.fnOf "inverse" "Ratio.inverse" (defArgs s_Ratio_inverse) (defBody s_Ratio_inverse) (defScope s_Ratio_inverse) .none kV_Ratio_inverse dc_Ratio_inverse pm_Ratio_inverse an_Ratio_inverse cd_Ratio_inverse ct_Ratio_inverse), sl_Ratio_inverse⟩)
    (h_l_eliminate : K.lookup A_eliminate = some ⟨oc_eliminate, od_eliminate, .func (PySem.W.fnOf "_eliminate" "_eliminate" (defArgs s_eliminate) (defBody s_eliminate) (defScope s_eliminate) .none kV_eliminate dc_eliminate pm_eliminate an_eliminate cd_eliminate ct_eliminate), sl_eliminate⟩)
    (h_l_law_cell : K.lookup A_law_cell = some ⟨oc_law_cell, od_law_cell, .func (PySem.W.fnOf "_law_cell" "_law_cell" (defArgs s_law_cell) (defBody s_law_cell) (defScope s_law_cell) .none kV_law_cell dc_law_cell pm_law_cell an_law_cell cd_law_cell ct_law_cell), sl_law_cell⟩)
    (h_l_law_draws : K.lookup A_law_draws = some ⟨oc_law_draws, od_law_draws, .func (PySem.W.fnOf "_law_draws" "_law_draws" (defArgs s_law_draws) (defBody s_law_draws) (defScope s_law_draws) .none kV_law_draws dc_law_draws pm_law_draws an_law_draws cd_law_draws ct_law_draws), sl_law_draws⟩)
    (h_l_law_gcd : K.lookup A_law_gcd = some ⟨oc_law_gcd, od_law_gcd, .func (PySem.W.fnOf "_law_gcd" "_law_gcd" (defArgs s_law_gcd) (defBody s_law_gcd) (defScope s_law_gcd) .none kV_law_gcd dc_law_gcd pm_law_gcd an_law_gcd cd_law_gcd ct_law_gcd), sl_law_gcd⟩)
    (h_l_law_rat : K.lookup A_law_rat = some ⟨oc_law_rat, od_law_rat, .func (PySem.W.fnOf "_law_rat" "_law_rat" (defArgs s_law_rat) (defBody s_law_rat) (defScope s_law_rat) .none kV_law_rat dc_law_rat pm_law_rat an_law_rat cd_law_rat ct_law_rat), sl_law_rat⟩)
    (h_l_law_add : K.lookup A_law_add = some ⟨oc_law_add, od_law_add, .func (PySem.W.fnOf "_law_add" "_law_add" (defArgs s_law_add) (defBody s_law_add) (defScope s_law_add) .none kV_law_add dc_law_add pm_law_add an_law_add cd_law_add ct_law_add), sl_law_add⟩)
    (h_l_law_mul : K.lookup A_law_mul = some ⟨oc_law_mul, od_law_mul, .func (PySem.W.fnOf "_law_mul" "_law_mul" (defArgs s_law_mul) (defBody s_law_mul) (defScope s_law_mul) .none kV_law_mul dc_law_mul pm_law_mul an_law_mul cd_law_mul ct_law_mul), sl_law_mul⟩)
    (h_l_law_is_integer : K.lookup A_law_is_integer = some ⟨oc_law_is_integer, od_law_is_integer, .func (PySem.W.fnOf "_law_is_integer" "_law_is_integer" (defArgs s_law_is_integer) (defBody s_law_is_integer) (defScope s_law_is_integer) .none kV_law_is_integer dc_law_is_integer pm_law_is_integer an_law_is_integer cd_law_is_integer ct_law_is_integer), sl_law_is_integer⟩)
    (h_l_law_pair : K.lookup A_law_pair = some ⟨oc_law_pair, od_law_pair, .func (PySem.W.fnOf "_law_pair" "_law_pair" (defArgs s_law_pair) (defBody s_law_pair) (defScope s_law_pair) .none kV_law_pair dc_law_pair pm_law_pair an_law_pair cd_law_pair ct_law_pair), sl_law_pair⟩)
    (h_l_law_pairs : K.lookup A_law_pairs = some ⟨oc_law_pairs, od_law_pairs, .func (PySem.W.fnOf "_law_pairs" "_law_pairs" (defArgs s_law_pairs) (defBody s_law_pairs) (defScope s_law_pairs) .none kV_law_pairs dc_law_pairs pm_law_pairs an_law_pairs cd_law_pairs ct_law_pairs), sl_law_pairs⟩)
    (h_l_law_ratios : K.lookup A_law_ratios = some ⟨oc_law_ratios, od_law_ratios, .func (PySem.W.fnOf "_law_ratios" "_law_ratios" (defArgs s_law_ratios) (defBody s_law_ratios) (defScope s_law_ratios) .none kV_law_ratios dc_law_ratios pm_law_ratios an_law_ratios cd_law_ratios ct_law_ratios), sl_law_ratios⟩)
    (h_l_law_small : K.lookup A_law_small = some ⟨oc_law_small, od_law_small, .func (PySem.W.fnOf "_law_small" "_law_small" (defArgs s_law_small) (defBody s_law_small) (defScope s_law_small) .none kV_law_small dc_law_small pm_law_small an_law_small cd_law_small ct_law_small), sl_law_small⟩)
    (h_l_law_matrix : K.lookup A_law_matrix = some ⟨oc_law_matrix, od_law_matrix, .func (PySem.W.fnOf "_law_matrix" "_law_matrix" (defArgs s_law_matrix) (defBody s_law_matrix) (defScope s_law_matrix) .none kV_law_matrix dc_law_matrix pm_law_matrix an_law_matrix cd_law_matrix ct_law_matrix), sl_law_matrix⟩)
    (h_l_law_dot : K.lookup A_law_dot = some ⟨oc_law_dot, od_law_dot, .func (PySem.W.fnOf "_law_dot" "_law_dot" (defArgs s_law_dot) (defBody s_law_dot) (defScope s_law_dot) .none kV_law_dot dc_law_dot pm_law_dot an_law_dot cd_law_dot ct_law_dot), sl_law_dot⟩)
    (h_l_law_combine : K.lookup A_law_combine = some ⟨oc_law_combine, od_law_combine, .func (PySem.W.fnOf "_law_combine" "_law_combine" (defArgs s_law_combine) (defBody s_law_combine) (defScope s_law_combine) .none kV_law_combine dc_law_combine pm_law_combine an_law_combine cd_law_combine ct_law_combine), sl_law_combine⟩)
    (h_l_Matrix_init : K.lookup A_Matrix_init = some ⟨oc_Matrix_init, od_Matrix_init, .func (PySem.W.fnOf "__init__" "Matrix.__init__" (defArgs s_Matrix_init) (defBody s_Matrix_init) (defScope s_Matrix_init) .none kV_Matrix_init dc_Matrix_init pm_Matrix_init an_Matrix_init cd_Matrix_init ct_Matrix_init), sl_Matrix_init⟩)
    (h_l_law_to_matrix : K.lookup A_law_to_matrix = some ⟨oc_law_to_matrix, od_law_to_matrix, .func (PySem.W.fnOf "_law_to_matrix" "_law_to_matrix" (defArgs s_law_to_matrix) (defBody s_law_to_matrix) (defScope s_law_to_matrix) .none kV_law_to_matrix dc_law_to_matrix pm_law_to_matrix an_law_to_matrix cd_law_to_matrix ct_law_to_matrix), sl_law_to_matrix⟩)
    (h_l_Matrix_reduced : K.lookup A_Matrix_reduced = some ⟨oc_Matrix_reduced, od_Matrix_reduced, .func (PySem.W.fnOf "reduced" "Matrix.reduced" (defArgs s_Matrix_reduced) (defBody s_Matrix_reduced) (defScope s_Matrix_reduced) .none kV_Matrix_reduced dc_Matrix_reduced pm_Matrix_reduced an_Matrix_reduced cd_Matrix_reduced ct_Matrix_reduced), sl_Matrix_reduced⟩)
    (h_l_Ratio_neg : K.lookup A_Ratio_neg = some ⟨oc_Ratio_neg, od_Ratio_neg, .func (PySem.W.fnOf "__neg__" "Ratio.__neg__" (defArgs s_Ratio_neg) (defBody s_Ratio_neg) (defScope s_Ratio_neg) .none kV_Ratio_neg dc_Ratio_neg pm_Ratio_neg an_Ratio_neg cd_Ratio_neg ct_Ratio_neg), sl_Ratio_neg⟩)
    (h_l_Matrix_kernel : K.lookup A_Matrix_kernel = some ⟨oc_Matrix_kernel, od_Matrix_kernel, .func (PySem.W.fnOf "kernel" "Matrix.kernel" (defArgs s_Matrix_kernel) (defBody s_Matrix_kernel) (defScope s_Matrix_kernel) .none kV_Matrix_kernel dc_Matrix_kernel pm_Matrix_kernel an_Matrix_kernel cd_Matrix_kernel ct_Matrix_kernel), sl_Matrix_kernel⟩)
    (h_l_Ratio_over : K.lookup A_Ratio_over = some ⟨oc_Ratio_over, od_Ratio_over, .func (PySem.W.fnOf "over" "Ratio.over" (defArgs s_Ratio_over) (defBody s_Ratio_over) (defScope s_Ratio_over) .none kV_Ratio_over dc_Ratio_over pm_Ratio_over an_Ratio_over cd_Ratio_over ct_Ratio_over), sl_Ratio_over⟩)
    (h_l_Matrix_solve : K.lookup A_Matrix_solve = some ⟨oc_Matrix_solve, od_Matrix_solve, .func (PySem.W.fnOf "solve" "Matrix.solve" (defArgs s_Matrix_solve) (defBody s_Matrix_solve) (defScope s_Matrix_solve) .none kV_Matrix_solve dc_Matrix_solve pm_Matrix_solve an_Matrix_solve cd_Matrix_solve ct_Matrix_solve), sl_Matrix_solve⟩)
    (h_l_law : K.lookup A_law = some ⟨oc_law, od_law, .func (PySem.W.fnOf "law" "law" (defArgs s_law) (defBody s_law) (defScope s_law) .none kV_law dc_law pm_law an_law cd_law ct_law), sl_law⟩)
    (h_c_Ratio_init : PySem.W.codeIn K cd_Ratio_init "Ratio.__init__" = true)
    (h_d_Ratio_init : K.lookup D_Ratio_init = some ⟨ocd_Ratio_init, odd_Ratio_init, .seq its_Ratio_init.toArray nd_Ratio_init, sld_Ratio_init⟩)
    (h_v_Ratio_init : Vals [V.int 1] its_Ratio_init)
    (h_k_Ratio_init : PySem.W.keepIn K (.ref A_Ratio_init) = true)
    (h_c_unit : PySem.W.codeIn K cd_unit "_unit" = true)
    (h_k_unit : PySem.W.keepIn K (.ref A_unit) = true)
    (h_c_Ratio_sub : PySem.W.codeIn K cd_Ratio_sub "Ratio.__sub__" = true)
    (h_k_Ratio_sub : PySem.W.keepIn K (.ref A_Ratio_sub) = true)
    (h_c_Ratio_mul : PySem.W.codeIn K cd_Ratio_mul "Ratio.__mul__" = true)
    (h_k_Ratio_mul : PySem.W.keepIn K (.ref A_Ratio_mul) = true)
    (h_c_Ratio_inverse : PySem.W.codeIn K cd_Ratio_inverse "Ratio.inverse" = true)
    (h_k_Ratio_inverse : PySem.W.keepIn K (.ref A_Ratio_inverse) = true)
    (h_c_eliminate : PySem.W.codeIn K cd_eliminate "_eliminate" = true)
    (h_k_eliminate : PySem.W.keepIn K (.ref A_eliminate) = true)
    (h_c_law_cell : PySem.W.codeIn K cd_law_cell "_law_cell" = true)
    (h_k_law_cell : PySem.W.keepIn K (.ref A_law_cell) = true)
    (h_c_law_draws : PySem.W.codeIn K cd_law_draws "_law_draws" = true)
    (h_k_law_draws : PySem.W.keepIn K (.ref A_law_draws) = true)
    (h_c_law_gcd : PySem.W.codeIn K cd_law_gcd "_law_gcd" = true)
    (h_k_law_gcd : PySem.W.keepIn K (.ref A_law_gcd) = true)
    (h_c_law_rat : PySem.W.codeIn K cd_law_rat "_law_rat" = true)
    (h_k_law_rat : PySem.W.keepIn K (.ref A_law_rat) = true)
    (h_c_law_add : PySem.W.codeIn K cd_law_add "_law_add" = true)
    (h_k_law_add : PySem.W.keepIn K (.ref A_law_add) = true)
    (h_c_law_mul : PySem.W.codeIn K cd_law_mul "_law_mul" = true)
    (h_k_law_mul : PySem.W.keepIn K (.ref A_law_mul) = true)
    (h_c_law_is_integer : PySem.W.codeIn K cd_law_is_integer "_law_is_integer" = true)
    (h_k_law_is_integer : PySem.W.keepIn K (.ref A_law_is_integer) = true)
    (h_c_law_pair : PySem.W.codeIn K cd_law_pair "_law_pair" = true)
    (h_k_law_pair : PySem.W.keepIn K (.ref A_law_pair) = true)
    (h_c_law_pairs : PySem.W.codeIn K cd_law_pairs "_law_pairs" = true)
    (h_k_law_pairs : PySem.W.keepIn K (.ref A_law_pairs) = true)
    (h_c_law_ratios : PySem.W.codeIn K cd_law_ratios "_law_ratios" = true)
    (h_k_law_ratios : PySem.W.keepIn K (.ref A_law_ratios) = true)
    (h_c_law_small : PySem.W.codeIn K cd_law_small "_law_small" = true)
    (h_k_law_small : PySem.W.keepIn K (.ref A_law_small) = true)
    (h_c_law_matrix : PySem.W.codeIn K cd_law_matrix "_law_matrix" = true)
    (h_k_law_matrix : PySem.W.keepIn K (.ref A_law_matrix) = true)
    (h_c_law_dot : PySem.W.codeIn K cd_law_dot "_law_dot" = true)
    (h_k_law_dot : PySem.W.keepIn K (.ref A_law_dot) = true)
    (h_c_law_combine : PySem.W.codeIn K cd_law_combine "_law_combine" = true)
    (h_k_law_combine : PySem.W.keepIn K (.ref A_law_combine) = true)
    (h_c_Matrix_init : PySem.W.codeIn K cd_Matrix_init "Matrix.__init__" = true)
    (h_k_Matrix_init : PySem.W.keepIn K (.ref A_Matrix_init) = true)
    (h_c_law_to_matrix : PySem.W.codeIn K cd_law_to_matrix "_law_to_matrix" = true)
    (h_k_law_to_matrix : PySem.W.keepIn K (.ref A_law_to_matrix) = true)
    (h_c_Matrix_reduced : PySem.W.codeIn K cd_Matrix_reduced "Matrix.reduced" = true)
    (h_k_Matrix_reduced : PySem.W.keepIn K (.ref A_Matrix_reduced) = true)
    (h_c_Ratio_neg : PySem.W.codeIn K cd_Ratio_neg "Ratio.__neg__" = true)
    (h_k_Ratio_neg : PySem.W.keepIn K (.ref A_Ratio_neg) = true)
    (h_c_Matrix_kernel : PySem.W.codeIn K cd_Matrix_kernel "Matrix.kernel" = true)
    (h_k_Matrix_kernel : PySem.W.keepIn K (.ref A_Matrix_kernel) = true)
    (h_c_Ratio_over : PySem.W.codeIn K cd_Ratio_over "Ratio.over" = true)
    (h_k_Ratio_over : PySem.W.keepIn K (.ref A_Ratio_over) = true)
    (h_c_Matrix_solve : PySem.W.codeIn K cd_Matrix_solve "Matrix.solve" = true)
    (h_k_Matrix_solve : PySem.W.keepIn K (.ref A_Matrix_solve) = true)
    (h_c_law : PySem.W.codeIn K cd_law "law" = true)
    (h_k_law : PySem.W.keepIn K (.ref A_law) = true)
    (h_mk_Matrix : PySem.W.makesIn K A_Matrix = true)
    (h_kc_Matrix : PySem.W.keepIn K (.ref A_Matrix) = true)
    (h_mk_Ratio : PySem.W.makesIn K A_Ratio = true)
    (h_kc_Ratio : PySem.W.keepIn K (.ref A_Ratio) = true)
    (h_xi_ZeroDivisor : PySem.W.excIn K A_ZeroDivisor [.type "ValueError", .type "Exception", .type "BaseException", .type "object"] "ValueError.__new__" = true)
    (h_kx_ZeroDivisor : PySem.W.keepIn K (.ref A_ZeroDivisor) = true)
    (h_sx_ZeroDivisor : PySem.W.subIn K (.ref A_ZeroDivisor) (.type "BaseException") = some true)
    (h_tx_ZeroDivisor : PySem.W.typeIn K (.ref A_ZeroDivisor) = some (.type "type"))
    (h_pg_Ratio : PySem.W.plainGet K A_Ratio Str.empty = true)
    (h_hd_Ratio : PySem.W.hasDictIn K A_Ratio = true)
    (h_po_Ratio : PySem.W.plainOver K A_Ratio = true)
    (h_sa_Ratio : PySem.W.findIn K (.ref A_Ratio) "__setattr__" = some (some (.builtin "object.__setattr__")))
    (h_na_Ratio_n : PySem.W.findIn K (.ref A_Ratio) "n" = some none)
    (h_na_Ratio_d : PySem.W.findIn K (.ref A_Ratio) "d" = some none)
    (h_fn_Ratio_mul : PySem.W.isFn K (.ref A_Ratio_mul) = true)
    (h_sf_Ratio : PySem.W.selfFirst K A_Ratio = true)
    (h_fn_Ratio_sub : PySem.W.isFn K (.ref A_Ratio_sub) = true)
    (h_fn_Ratio_inverse : PySem.W.isFn K (.ref A_Ratio_inverse) = true)
    (h_is_int_Matrix : PySem.W.kitAny K (.ref A_Matrix) [.type "int"] = some false)
    (h_ca_Matrix : PySem.W.findIn K (.ref A_Matrix) "__class__" = some (some (.builtin "object.__class__")))
    (h_cn_ : PySem.W.specialIn K (.builtin "object.__class__") "__get__" = some (some (.builtin "getset_descriptor.__get__")))
    (h_ct_ : PySem.W.takesIn K (.builtin "object.__class__") = some true)
    (h_ob_Matrix : PySem.W.mroIn K A_Matrix (.type "object") = some true)
    (h_pg_Matrix : PySem.W.plainGet K A_Matrix Str.empty = true)
    (h_hd_Matrix : PySem.W.hasDictIn K A_Matrix = true)
    (h_po_Matrix : PySem.W.plainOver K A_Matrix = true)
    (h_sa_Matrix : PySem.W.findIn K (.ref A_Matrix) "__setattr__" = some (some (.builtin "object.__setattr__")))
    (h_na_Matrix_rows : PySem.W.findIn K (.ref A_Matrix) "rows" = some none)
    (h_na_Matrix_width : PySem.W.findIn K (.ref A_Matrix) "width" = some none)
    (h_is_int_Ratio : PySem.W.kitAny K (.ref A_Ratio) [.type "int"] = some false)
    (h_ca_Ratio : PySem.W.findIn K (.ref A_Ratio) "__class__" = some (some (.builtin "object.__class__")))
    (h_ob_Ratio : PySem.W.mroIn K A_Ratio (.type "object") = some true)
    (h_is_bool_Matrix : PySem.W.kitAny K (.ref A_Matrix) [.type "bool"] = some false)
    (h_is_bool_Ratio : PySem.W.kitAny K (.ref A_Ratio) [.type "bool"] = some false)
    (h_is_Ratio_Matrix : PySem.W.kitAny K (.ref A_Matrix) [.ref A_Ratio] = some false)
    (h_is_Ratio_Ratio : PySem.W.kitAny K (.ref A_Ratio) [.ref A_Ratio] = some true)
    (h_is_Ratio_5 : PySem.W.kitAny K (.type "list") [.ref A_Ratio] = some false)
    (h_is_Ratio_4 : PySem.W.kitAny K (.type "tuple") [.ref A_Ratio] = some false)
    (h_is_Ratio_3 : PySem.W.kitAny K (.type "str") [.ref A_Ratio] = some false)
    (h_is_Ratio_2 : PySem.W.kitAny K (.type "int") [.ref A_Ratio] = some false)
    (h_is_Ratio_1 : PySem.W.kitAny K (.type "bool") [.ref A_Ratio] = some false)
    (h_is_Ratio_0 : PySem.W.kitAny K (.type "NoneType") [.ref A_Ratio] = some false)
    (h_is_tuple_Matrix : PySem.W.kitAny K (.ref A_Matrix) [.type "tuple"] = some false)
    (h_is_tuple_Ratio : PySem.W.kitAny K (.ref A_Ratio) [.type "tuple"] = some false)
    (h_fn_Ratio_neg : PySem.W.isFn K (.ref A_Ratio_neg) = true)
    (h_fn_Matrix_reduced : PySem.W.isFn K (.ref A_Matrix_reduced) = true)
    (h_fn_Ratio_over : PySem.W.isFn K (.ref A_Ratio_over) = true)
    (h_fn_Matrix_solve : PySem.W.isFn K (.ref A_Matrix_solve) = true)
    (h_fn_Matrix_kernel : PySem.W.isFn K (.ref A_Matrix_kernel) = true)
    (h_fn_Matrix_init : PySem.W.isFn K (.ref A_Matrix_init) = true)
    (h_fn_Ratio_init : PySem.W.isFn K (.ref A_Ratio_init) = true)
    : ∃ (T : Tb) (fd : FuncData), T.K = K ∧ (∀ (s : Shared) (u : Value), BindsTo s fd ⟨[u], []⟩ [("script", u)]) ∧ ∀ base : Heap, K.In base → base.Ns mainGlobals mg → FnOk PP w K mg base (L2.CX PP w) 56 fa fd ["script"] (sp T φ_law) := by
  have key : ∃ a : Ad, Facts K mg a := ⟨⟨A_Ratio_init, A_unit, A_Ratio_sub, A_Ratio_mul, A_Ratio_inverse, A_eliminate, A_law_cell, A_law_draws, A_law_gcd, A_law_rat, A_law_add, A_law_mul, A_law_is_integer, A_law_pair, A_law_pairs, A_law_ratios, A_law_small, A_law_matrix, A_law_dot, A_law_combine, A_Matrix_init, A_law_to_matrix, A_Matrix_reduced, A_Ratio_neg, A_Matrix_kernel, A_Ratio_over, A_Matrix_solve, A_law, A_Fault, A_ZeroDivisor, A_Ratio, A_Matrix⟩, ⟨⟨h, KX, G⟩, (seer_mk s1 s2 s3 s4 s5 s6 s7), (fun1 h_l_Ratio_init h_c_Ratio_init h_k_Ratio_init h_d_Ratio_init h_v_Ratio_init (fun z => nomatch z)), h_k_Ratio_init, (PySem.W.mg_of KX G h_m__unit), (fun0 h_l_unit h_c_unit h_k_unit), h_k_unit, (fun0 h_l_Ratio_sub h_c_Ratio_sub h_k_Ratio_sub), h_k_Ratio_sub, (fun0 h_l_Ratio_mul h_c_Ratio_mul h_k_Ratio_mul), h_k_Ratio_mul, (fun0 h_l_Ratio_inverse h_c_Ratio_inverse h_k_Ratio_inverse), h_k_Ratio_inverse, (PySem.W.mg_of KX G h_m__eliminate), (fun0 h_l_eliminate h_c_eliminate h_k_eliminate), h_k_eliminate, (PySem.W.mg_of KX G h_m__law_cell), (fun0 h_l_law_cell h_c_law_cell h_k_law_cell), h_k_law_cell, (PySem.W.mg_of KX G h_m__law_draws), (fun0 h_l_law_draws h_c_law_draws h_k_law_draws), h_k_law_draws, (PySem.W.mg_of KX G h_m__law_gcd), (fun0 h_l_law_gcd h_c_law_gcd h_k_law_gcd), h_k_law_gcd, (PySem.W.mg_of KX G h_m__law_rat), (fun0 h_l_law_rat h_c_law_rat h_k_law_rat), h_k_law_rat, (PySem.W.mg_of KX G h_m__law_add), (fun0 h_l_law_add h_c_law_add h_k_law_add), h_k_law_add, (PySem.W.mg_of KX G h_m__law_mul), (fun0 h_l_law_mul h_c_law_mul h_k_law_mul), h_k_law_mul, (PySem.W.mg_of KX G h_m__law_is_integer), (fun0 h_l_law_is_integer h_c_law_is_integer h_k_law_is_integer), h_k_law_is_integer, (PySem.W.mg_of KX G h_m__law_pair), (fun0 h_l_law_pair h_c_law_pair h_k_law_pair), h_k_law_pair, (PySem.W.mg_of KX G h_m__law_pairs), (fun0 h_l_law_pairs h_c_law_pairs h_k_law_pairs), h_k_law_pairs, (PySem.W.mg_of KX G h_m__law_ratios), (fun0 h_l_law_ratios h_c_law_ratios h_k_law_ratios), h_k_law_ratios, (PySem.W.mg_of KX G h_m__law_small), (fun0 h_l_law_small h_c_law_small h_k_law_small), h_k_law_small, (PySem.W.mg_of KX G h_m__law_matrix), (fun0 h_l_law_matrix h_c_law_matrix h_k_law_matrix), h_k_law_matrix, (PySem.W.mg_of KX G h_m__law_dot), (fun0 h_l_law_dot h_c_law_dot h_k_law_dot), h_k_law_dot, (PySem.W.mg_of KX G h_m__law_combine), (fun0 h_l_law_combine h_c_law_combine h_k_law_combine), h_k_law_combine, (fun0 h_l_Matrix_init h_c_Matrix_init h_k_Matrix_init), h_k_Matrix_init, (PySem.W.mg_of KX G h_m__law_to_matrix), (fun0 h_l_law_to_matrix h_c_law_to_matrix h_k_law_to_matrix), h_k_law_to_matrix, (fun0 h_l_Matrix_reduced h_c_Matrix_reduced h_k_Matrix_reduced), h_k_Matrix_reduced, (fun0 h_l_Ratio_neg h_c_Ratio_neg h_k_Ratio_neg), h_k_Ratio_neg, (fun0 h_l_Matrix_kernel h_c_Matrix_kernel h_k_Matrix_kernel), h_k_Matrix_kernel, (fun0 h_l_Ratio_over h_c_Ratio_over h_k_Ratio_over), h_k_Ratio_over, (fun0 h_l_Matrix_solve h_c_Matrix_solve h_k_Matrix_solve), h_k_Matrix_solve, (PySem.W.mg_of KX G h_m_law), (fun0 h_l_law h_c_law h_k_law), h_k_law, (PySem.W.mg_of KX G h_m_Fault), (PySem.W.mg_of KX G h_m_ZeroDivisor), (PySem.W.mg_of KX G h_m_Ratio), (PySem.W.mg_of KX G h_m_Matrix), (PySem.W.mg_of KX G h_m_gcd), h_mk_Matrix, h_in_Matrix, h_kc_Matrix, h_mk_Ratio, h_in_Ratio, h_kc_Ratio, h_xi_ZeroDivisor, h_kx_ZeroDivisor, h_sx_ZeroDivisor, h_tx_ZeroDivisor, h_pg_Ratio, h_hd_Ratio, h_po_Ratio, h_sa_Ratio, h_na_Ratio_n, h_na_Ratio_d, h_z_range, h_z_int, h_z_len, h_z_zip, h_op_Ratio_mul, h_fn_Ratio_mul, h_sf_Ratio, h_op_Ratio_sub, h_fn_Ratio_sub, h_fn_Ratio_inverse, h_me_Ratio_inverse, h_z_abs, h_z_isinstance, h_is_int_Matrix, h_ca_Matrix, h_cn_, h_ct_, h_ob_Matrix, h_pg_Matrix, h_hd_Matrix, h_po_Matrix, h_sa_Matrix, h_na_Matrix_rows, h_na_Matrix_width, h_is_int_Ratio, h_ca_Ratio, h_ob_Ratio, h_is_bool_Matrix, h_is_bool_Ratio, h_z_bool, h_is_Ratio_Matrix, h_is_Ratio_Ratio, h_is_Ratio_5, h_is_Ratio_4, h_is_Ratio_3, h_is_Ratio_2, h_is_Ratio_1, h_is_Ratio_0, h_z_tuple, h_is_tuple_Matrix, h_is_tuple_Ratio, h_z_list, h_op_Ratio_neg, h_fn_Ratio_neg, h_fn_Matrix_reduced, h_me_Matrix_reduced, h_fn_Ratio_over, h_me_Ratio_over, h_fn_Matrix_solve, h_me_Matrix_solve, h_fn_Matrix_kernel, h_me_Matrix_kernel, h_fn_Matrix_init, h_fn_Ratio_init⟩⟩
  obtain ⟨a, H⟩ := key
  have e := hmg.symm.trans H.m_law
  cases e
  obtain ⟨fd, F, _⟩ := o_law (w := w) (base := h) H
  refine ⟨TT K a, fd, rfl, fun s u => F.bindsA (ps := ["script"]) (fun _ _ _ _ _ _ us hl => match us, hl with | [_], _ => rfl) s [u] rfl, fun base _ _ => ?_⟩
  obtain ⟨fd2, F2, ok⟩ := o_law (w := w) (base := base) H
  obtain rfl : fd2 = fd := funD_one F2 F
  exact ok
end L2.S.W

set_option Elab.async false
set_option linter.all false
set_option maxRecDepth 100000
set_option maxHeartbeats 8000000
namespace L2.S.W
open PySem PySem.Spec PyProof.Rows L2 L2.S
abbrev ob (n d : Int) : D := .obj 0 [.int n, .int d]
theorem r_init (n d : Int) (hd : d ≠ 0) : φ_Ratio_init [.own true (.s 0 []), .val (.int n), .val (.int d)] = .ok (.d .non) [(0, .s 0 [.int (nrN n d), .int (nrD n d)])] := by
  apply run_Ratio_init
  unfold g_Ratio_init
  simp -implicitDefEqProofs -dsimp only [↓Zaa, ↓Zab, ↓Zac, ↓Zad, ↓Zae, ↓Zaf, ↓Zag, ↓Zah, ↓Zai, ↓Zaj, ↓Zak, ↓Zal, ↓Zam, ↓Zan, ↓Zao, ↓Zap, ↓Zaq, ↓Zar, ↓Zas, ↓Zat, ↓Zau, ↓Zav, ↓Zaw, ↓Zax, ↓Zay, ↓Zaz, ↓Zba, ↓Zbb, ↓Zbc, ↓Zbd, ↓Zbe, ↓Zbf, ↓Zbg, ↓Zbh, ↓Zbi, ↓Zbj, ↓Zbk, ↓Zbl, ↓Zbm, ↓Zbn, ↓Zbo, ↓Zbp, ↓Zbq, ↓Zbr, ↓Zbs, ↓Zbt, ↓Zbu, ↓Zbv, ↓Zbw, ↓Zbx, ↓Zby, ↓Zbz, ↓Zca, ↓Zcb, ↓Zcc, ↓Zcd, ↓Zce, ↓Zcf, ↓Zcg, ↓Zch, ↓Zci, ↓Zcj, ↓Zck, ↓Zcl, ↓Zcm, ↓Zcn, ↓Zco, ↓Zcp, ↓Zcq, ↓Zcr, ↓Zcs, ↓Zct, ↓Zcu, ↓Zcv, ↓Zcw, ↓Zcx, ↓Zcy, ↓Zcz, ↓Zda, ↓Zdb, ↓Zdc, ↓Zdd, ↓Zde, ↓Zdf, ↓Zdg, ↓Zdh, ↓Zdi, ↓Zdj, ↓Zdk, ↓Zdl, ↓Zdm, ↓Zdn, ↓Zdo, ↓Zdp, ↓Zdq, ↓Zdr, ↓Zds, ↓Zdt, ↓Zdu, ↓Zdv, ↓Zdw, ↓Zdx, ↓Zdy, ↓Zdz, ↓Zea, ↓Zeb, ↓Zec, ↓Zed, ↓Zee, ↓Zef, ↓Zeg, ↓Zeh, ↓Zei, ↓Zej, ↓Zek, ↓Zel, ↓Zem, ↓Zen, ↓Zeo, ↓Zep, ↓Zeq, ↓Zer, ↓Zes, ↓Zet, ↓Zeu, ↓Zev, ↓Zew, ↓Zex, ↓Zey, ↓Zez, ↓Zfa, ↓Zfb, ↓Zfc, ↓Zfd, ↓Zfe, ↓Zff, ↓Zfg, ↓Zfh, ↓Zfi, ↓Zfj, ↓Zfk, ↓Zfl, ↓Zfm, ↓Zfn, ↓Zfo, ↓Zfp, ↓Zfq, ↓Zfr, ↓Zfs, ↓Zft, ↓Zfu, ↓Zfv, ↓Zfw, ↓Zfx, ↓Zfy, ↓Zfz, ↓Zga, ↓Zgb, ↓Zgc, ↓Zgd, ↓Zge, ↓Zgf, ↓Zgg, ↓Zgh, ↓Zgi, ↓Zgj, ↓Zgk, ↓Zgl, ↓Zgm, ↓Zgn, ↓Zgo, ↓Zgp, ↓Zgq, ↓Zgr, ↓Zgs, ↓Zgt, ↓Zgu, ↓Zgv, ↓Zgw, ↓Zgx, ↓Zgy, ↓Zgz, ↓Zha, ↓Zhb, ↓Zhc, ↓Zhd, ↓Zhe, ↓Zhf, ↓Zhg, ↓Zhh, ↓Zhi, ↓Zhj, ↓Zhk, ↓Zhl, ↓Zhm, ↓Zhn, ↓Zho, ↓Zhp, ↓Zhq, ↓Zhr, ↓Zhs, ↓Zht, ↓Zhu, ↓Zhv, ↓Zhw, ↓Zhx, ↓Zhy, ↓Zhz, ↓Zia, ↓Zib, ↓Zic, ↓Zid, ↓Zie, ↓Zif, ↓Zig, ↓Zih, ↓Zii, ↓Zij, ↓Zik, reduceIte, if_true, if_false, Bool.false_eq_true, Bool.and_true, Bool.true_and, Bool.and_false, Bool.false_and, Bool.or_true, Bool.true_or, Bool.or_false, Bool.false_or, Int.cast_ofNat_Int, Zil, Zim, beq_self_eq_true, Int.reduceBEq, Int.reduceLT, Int.reduceLE, Int.reduceEq, Int.reduceNeg, Nat.reduceLT, Zin, Zio, Ziq, Zir, Zis, Zit, Ziu, Ziv, Ziw, Zix, Ziy, Ziz, Zja, Zjb, Zjc, Zjd, Zje, Zjf, Zjg, Zjh, Zji, Zjj, Zjk, Zjl, Zjm, Zjn, Zjo, Zjp, Zjq, Zjr, Zjs, Zjt, Zju, Zjv, Zjw, Zjx, Zjy, Zjz, Zka, Zkb, Zkc, Zkd, Zke, Zkf, Zkg, Zkh, Zki, Zkj, Zkk, Zkl, Zkm, Zkn, Zko, Zkp, List.lookup_nil, Zkq, Zkr, Option.map_some, Option.map_none, Option.bind_some, Option.bind_none, List.map_nil, List.map_cons, List.nil_append, List.cons_append, List.append_nil, List.length_cons, List.length_nil, Nat.reduceAdd, Nat.reduceLeDiff, Nat.reduceEqDiff, Nat.reduceBEq, decide_true, decide_false, Bool.not_true, Bool.not_false, Zks, Zkt, Zku, Zkv, Zkw, Zkx, Zky, Zkz, Zla, Zlb, Zlc, Zld, Zle, Zlf, List.getElem?_cons_zero, List.getElem?_cons_succ, Zlg, Zlh, Zli, Zlj, Zlk, Zll, Zlm, Zln, Zlo, Zlp, Zlq, Zlr, Zls, Zlt, Zlu, Zlv, Zlw, Zlx, Zly, setX, Zlz, Zma, Zmb, Int.ofNat_lt, Int.ofNat_le, (by simpa using hd : (d == 0) = false)]
  have e : ∀ g : Int, g = sgc n d → n.fdiv g = nrN n d ∧ d.fdiv g = nrD n d := fun g h => by rw [h]; exact ⟨rfl, rfl⟩
  have g0 := sgc_ne (n := n) hd
  refine iteK_dec (fun h => ?_) (fun h => ?_)
  · have q : ((Int.gcd n d : Nat) : Int) = sgc n d := by unfold sgc; rw [if_pos h]
    simp -implicitDefEqProofs -dsimp only [↓Zaa, ↓Zab, ↓Zac, ↓Zad, ↓Zae, ↓Zaf, ↓Zag, ↓Zah, ↓Zai, ↓Zaj, ↓Zak, ↓Zal, ↓Zam, ↓Zan, ↓Zao, ↓Zap, ↓Zaq, ↓Zar, ↓Zas, ↓Zat, ↓Zau, ↓Zav, ↓Zaw, ↓Zax, ↓Zay, ↓Zaz, ↓Zba, ↓Zbb, ↓Zbc, ↓Zbd, ↓Zbe, ↓Zbf, ↓Zbg, ↓Zbh, ↓Zbi, ↓Zbj, ↓Zbk, ↓Zbl, ↓Zbm, ↓Zbn, ↓Zbo, ↓Zbp, ↓Zbq, ↓Zbr, ↓Zbs, ↓Zbt, ↓Zbu, ↓Zbv, ↓Zbw, ↓Zbx, ↓Zby, ↓Zbz, ↓Zca, ↓Zcb, ↓Zcc, ↓Zcd, ↓Zce, ↓Zcf, ↓Zcg, ↓Zch, ↓Zci, ↓Zcj, ↓Zck, ↓Zcl, ↓Zcm, ↓Zcn, ↓Zco, ↓Zcp, ↓Zcq, ↓Zcr, ↓Zcs, ↓Zct, ↓Zcu, ↓Zcv, ↓Zcw, ↓Zcx, ↓Zcy, ↓Zcz, ↓Zda, ↓Zdb, ↓Zdc, ↓Zdd, ↓Zde, ↓Zdf, ↓Zdg, ↓Zdh, ↓Zdi, ↓Zdj, ↓Zdk, ↓Zdl, ↓Zdm, ↓Zdn, ↓Zdo, ↓Zdp, ↓Zdq, ↓Zdr, ↓Zds, ↓Zdt, ↓Zdu, ↓Zdv, ↓Zdw, ↓Zdx, ↓Zdy, ↓Zdz, ↓Zea, ↓Zeb, ↓Zec, ↓Zed, ↓Zee, ↓Zef, ↓Zeg, ↓Zeh, ↓Zei, ↓Zej, ↓Zek, ↓Zel, ↓Zem, ↓Zen, ↓Zeo, ↓Zep, ↓Zeq, ↓Zer, ↓Zes, ↓Zet, ↓Zeu, ↓Zev, ↓Zew, ↓Zex, ↓Zey, ↓Zez, ↓Zfa, ↓Zfb, ↓Zfc, ↓Zfd, ↓Zfe, ↓Zff, ↓Zfg, ↓Zfh, ↓Zfi, ↓Zfj, ↓Zfk, ↓Zfl, ↓Zfm, ↓Zfn, ↓Zfo, ↓Zfp, ↓Zfq, ↓Zfr, ↓Zfs, ↓Zft, ↓Zfu, ↓Zfv, ↓Zfw, ↓Zfx, ↓Zfy, ↓Zfz, ↓Zga, ↓Zgb, ↓Zgc, ↓Zgd, ↓Zge, ↓Zgf, ↓Zgg, ↓Zgh, ↓Zgi, ↓Zgj, ↓Zgk, ↓Zgl, ↓Zgm, ↓Zgn, ↓Zgo, ↓Zgp, ↓Zgq, ↓Zgr, ↓Zgs, ↓Zgt, ↓Zgu, ↓Zgv, ↓Zgw, ↓Zgx, ↓Zgy, ↓Zgz, ↓Zha, ↓Zhb, ↓Zhc, ↓Zhd, ↓Zhe, ↓Zhf, ↓Zhg, ↓Zhh, ↓Zhi, ↓Zhj, ↓Zhk, ↓Zhl, ↓Zhm, ↓Zhn, ↓Zho, ↓Zhp, ↓Zhq, ↓Zhr, ↓Zhs, ↓Zht, ↓Zhu, ↓Zhv, ↓Zhw, ↓Zhx, ↓Zhy, ↓Zhz, ↓Zia, ↓Zib, ↓Zic, ↓Zid, ↓Zie, ↓Zif, ↓Zig, ↓Zih, ↓Zii, ↓Zij, ↓Zik, reduceIte, if_true, if_false, Bool.false_eq_true, Bool.and_true, Bool.true_and, Bool.and_false, Bool.false_and, Bool.or_true, Bool.true_or, Bool.or_false, Bool.false_or, Int.cast_ofNat_Int, Zil, Zim, beq_self_eq_true, Int.reduceBEq, Int.reduceLT, Int.reduceLE, Int.reduceEq, Int.reduceNeg, Nat.reduceLT, Zin, Zio, Ziq, Zir, Zis, Zit, Ziu, Ziv, Ziw, Zix, Ziy, Ziz, Zja, Zjb, Zjc, Zjd, Zje, Zjf, Zjg, Zjh, Zji, Zjj, Zjk, Zjl, Zjm, Zjn, Zjo, Zjp, Zjq, Zjr, Zjs, Zjt, Zju, Zjv, Zjw, Zjx, Zjy, Zjz, Zka, Zkb, Zkc, Zkd, Zke, Zkf, Zkg, Zkh, Zki, Zkj, Zkk, Zkl, Zkm, Zkn, Zko, Zkp, List.lookup_nil, Zkq, Zkr, Option.map_some, Option.map_none, Option.bind_some, Option.bind_none, List.map_nil, List.map_cons, List.nil_append, List.cons_append, List.append_nil, List.length_cons, List.length_nil, Nat.reduceAdd, Nat.reduceLeDiff, Nat.reduceEqDiff, Nat.reduceBEq, decide_true, decide_false, Bool.not_true, Bool.not_false, Zks, Zkt, Zku, Zkv, Zkw, Zkx, Zky, Zkz, Zla, Zlb, Zlc, Zld, Zle, Zlf, List.getElem?_cons_zero, List.getElem?_cons_succ, Zlg, Zlh, Zli, Zlj, Zlk, Zll, Zlm, Zln, Zlo, Zlp, Zlq, Zlr, Zls, Zlt, Zlu, Zlv, Zlw, Zlx, Zly, setX, Zlz, Zma, Zmb, Int.ofNat_lt, Int.ofNat_le, q, div_ii g0, (rfl : ([] : List D).length = 0), (rfl : [D.int (n.fdiv (sgc n d))].length = 1), (e _ rfl).1, (e _ rfl).2]
  · have q : -((Int.gcd n d : Nat) : Int) = sgc n d := by unfold sgc; rw [if_neg h]
    simp -implicitDefEqProofs -dsimp only [↓Zaa, ↓Zab, ↓Zac, ↓Zad, ↓Zae, ↓Zaf, ↓Zag, ↓Zah, ↓Zai, ↓Zaj, ↓Zak, ↓Zal, ↓Zam, ↓Zan, ↓Zao, ↓Zap, ↓Zaq, ↓Zar, ↓Zas, ↓Zat, ↓Zau, ↓Zav, ↓Zaw, ↓Zax, ↓Zay, ↓Zaz, ↓Zba, ↓Zbb, ↓Zbc, ↓Zbd, ↓Zbe, ↓Zbf, ↓Zbg, ↓Zbh, ↓Zbi, ↓Zbj, ↓Zbk, ↓Zbl, ↓Zbm, ↓Zbn, ↓Zbo, ↓Zbp, ↓Zbq, ↓Zbr, ↓Zbs, ↓Zbt, ↓Zbu, ↓Zbv, ↓Zbw, ↓Zbx, ↓Zby, ↓Zbz, ↓Zca, ↓Zcb, ↓Zcc, ↓Zcd, ↓Zce, ↓Zcf, ↓Zcg, ↓Zch, ↓Zci, ↓Zcj, ↓Zck, ↓Zcl, ↓Zcm, ↓Zcn, ↓Zco, ↓Zcp, ↓Zcq, ↓Zcr, ↓Zcs, ↓Zct, ↓Zcu, ↓Zcv, ↓Zcw, ↓Zcx, ↓Zcy, ↓Zcz, ↓Zda, ↓Zdb, ↓Zdc, ↓Zdd, ↓Zde, ↓Zdf, ↓Zdg, ↓Zdh, ↓Zdi, ↓Zdj, ↓Zdk, ↓Zdl, ↓Zdm, ↓Zdn, ↓Zdo, ↓Zdp, ↓Zdq, ↓Zdr, ↓Zds, ↓Zdt, ↓Zdu, ↓Zdv, ↓Zdw, ↓Zdx, ↓Zdy, ↓Zdz, ↓Zea, ↓Zeb, ↓Zec, ↓Zed, ↓Zee, ↓Zef, ↓Zeg, ↓Zeh, ↓Zei, ↓Zej, ↓Zek, ↓Zel, ↓Zem, ↓Zen, ↓Zeo, ↓Zep, ↓Zeq, ↓Zer, ↓Zes, ↓Zet, ↓Zeu, ↓Zev, ↓Zew, ↓Zex, ↓Zey, ↓Zez, ↓Zfa, ↓Zfb, ↓Zfc, ↓Zfd, ↓Zfe, ↓Zff, ↓Zfg, ↓Zfh, ↓Zfi, ↓Zfj, ↓Zfk, ↓Zfl, ↓Zfm, ↓Zfn, ↓Zfo, ↓Zfp, ↓Zfq, ↓Zfr, ↓Zfs, ↓Zft, ↓Zfu, ↓Zfv, ↓Zfw, ↓Zfx, ↓Zfy, ↓Zfz, ↓Zga, ↓Zgb, ↓Zgc, ↓Zgd, ↓Zge, ↓Zgf, ↓Zgg, ↓Zgh, ↓Zgi, ↓Zgj, ↓Zgk, ↓Zgl, ↓Zgm, ↓Zgn, ↓Zgo, ↓Zgp, ↓Zgq, ↓Zgr, ↓Zgs, ↓Zgt, ↓Zgu, ↓Zgv, ↓Zgw, ↓Zgx, ↓Zgy, ↓Zgz, ↓Zha, ↓Zhb, ↓Zhc, ↓Zhd, ↓Zhe, ↓Zhf, ↓Zhg, ↓Zhh, ↓Zhi, ↓Zhj, ↓Zhk, ↓Zhl, ↓Zhm, ↓Zhn, ↓Zho, ↓Zhp, ↓Zhq, ↓Zhr, ↓Zhs, ↓Zht, ↓Zhu, ↓Zhv, ↓Zhw, ↓Zhx, ↓Zhy, ↓Zhz, ↓Zia, ↓Zib, ↓Zic, ↓Zid, ↓Zie, ↓Zif, ↓Zig, ↓Zih, ↓Zii, ↓Zij, ↓Zik, reduceIte, if_true, if_false, Bool.false_eq_true, Bool.and_true, Bool.true_and, Bool.and_false, Bool.false_and, Bool.or_true, Bool.true_or, Bool.or_false, Bool.false_or, Int.cast_ofNat_Int, Zil, Zim, beq_self_eq_true, Int.reduceBEq, Int.reduceLT, Int.reduceLE, Int.reduceEq, Int.reduceNeg, Nat.reduceLT, Zin, Zio, Ziq, Zir, Zis, Zit, Ziu, Ziv, Ziw, Zix, Ziy, Ziz, Zja, Zjb, Zjc, Zjd, Zje, Zjf, Zjg, Zjh, Zji, Zjj, Zjk, Zjl, Zjm, Zjn, Zjo, Zjp, Zjq, Zjr, Zjs, Zjt, Zju, Zjv, Zjw, Zjx, Zjy, Zjz, Zka, Zkb, Zkc, Zkd, Zke, Zkf, Zkg, Zkh, Zki, Zkj, Zkk, Zkl, Zkm, Zkn, Zko, Zkp, List.lookup_nil, Zkq, Zkr, Option.map_some, Option.map_none, Option.bind_some, Option.bind_none, List.map_nil, List.map_cons, List.nil_append, List.cons_append, List.append_nil, List.length_cons, List.length_nil, Nat.reduceAdd, Nat.reduceLeDiff, Nat.reduceEqDiff, Nat.reduceBEq, decide_true, decide_false, Bool.not_true, Bool.not_false, Zks, Zkt, Zku, Zkv, Zkw, Zkx, Zky, Zkz, Zla, Zlb, Zlc, Zld, Zle, Zlf, List.getElem?_cons_zero, List.getElem?_cons_succ, Zlg, Zlh, Zli, Zlj, Zlk, Zll, Zlm, Zln, Zlo, Zlp, Zlq, Zlr, Zls, Zlt, Zlu, Zlv, Zlw, Zlx, Zly, setX, Zlz, Zma, Zmb, Int.ofNat_lt, Int.ofNat_le, q, div_ii g0, (rfl : ([] : List D).length = 0), (rfl : [D.int (n.fdiv (sgc n d))].length = 1), (e _ rfl).1, (e _ rfl).2]
theorem i_rat (n d : Int) (hd : d ≠ 0) {q : Rat} (h : Rat.divInt n d = q) : φ_Ratio_init [.own true (.s 0 []), .val (.int n), .val (.int d)] = .ok (.d .non) [(0, .s 0 [.int q.num, .int (q.den : Int)])] := by
  rw [r_init n d hd, (nr_q hd).1, (nr_q hd).2, h]
theorem m_sub {a b : Rat} {j k : Nat} (ha : Sz j a) (hb : Sz k b) (l : j + k ≤ 50000000) : φ_Ratio_sub [.val (rD a), .val (rD b)] = .ok (.d (rD (a - b))) [] := by
  apply run_Ratio_sub
  unfold g_Ratio_sub
  simp -implicitDefEqProofs -dsimp only [↓Zaa, ↓Zab, ↓Zac, ↓Zad, ↓Zae, ↓Zaf, ↓Zag, ↓Zah, ↓Zai, ↓Zaj, ↓Zak, ↓Zal, ↓Zam, ↓Zan, ↓Zao, ↓Zap, ↓Zaq, ↓Zar, ↓Zas, ↓Zat, ↓Zau, ↓Zav, ↓Zaw, ↓Zax, ↓Zay, ↓Zaz, ↓Zba, ↓Zbb, ↓Zbc, ↓Zbd, ↓Zbe, ↓Zbf, ↓Zbg, ↓Zbh, ↓Zbi, ↓Zbj, ↓Zbk, ↓Zbl, ↓Zbm, ↓Zbn, ↓Zbo, ↓Zbp, ↓Zbq, ↓Zbr, ↓Zbs, ↓Zbt, ↓Zbu, ↓Zbv, ↓Zbw, ↓Zbx, ↓Zby, ↓Zbz, ↓Zca, ↓Zcb, ↓Zcc, ↓Zcd, ↓Zce, ↓Zcf, ↓Zcg, ↓Zch, ↓Zci, ↓Zcj, ↓Zck, ↓Zcl, ↓Zcm, ↓Zcn, ↓Zco, ↓Zcp, ↓Zcq, ↓Zcr, ↓Zcs, ↓Zct, ↓Zcu, ↓Zcv, ↓Zcw, ↓Zcx, ↓Zcy, ↓Zcz, ↓Zda, ↓Zdb, ↓Zdc, ↓Zdd, ↓Zde, ↓Zdf, ↓Zdg, ↓Zdh, ↓Zdi, ↓Zdj, ↓Zdk, ↓Zdl, ↓Zdm, ↓Zdn, ↓Zdo, ↓Zdp, ↓Zdq, ↓Zdr, ↓Zds, ↓Zdt, ↓Zdu, ↓Zdv, ↓Zdw, ↓Zdx, ↓Zdy, ↓Zdz, ↓Zea, ↓Zeb, ↓Zec, ↓Zed, ↓Zee, ↓Zef, ↓Zeg, ↓Zeh, ↓Zei, ↓Zej, ↓Zek, ↓Zel, ↓Zem, ↓Zen, ↓Zeo, ↓Zep, ↓Zeq, ↓Zer, ↓Zes, ↓Zet, ↓Zeu, ↓Zev, ↓Zew, ↓Zex, ↓Zey, ↓Zez, ↓Zfa, ↓Zfb, ↓Zfc, ↓Zfd, ↓Zfe, ↓Zff, ↓Zfg, ↓Zfh, ↓Zfi, ↓Zfj, ↓Zfk, ↓Zfl, ↓Zfm, ↓Zfn, ↓Zfo, ↓Zfp, ↓Zfq, ↓Zfr, ↓Zfs, ↓Zft, ↓Zfu, ↓Zfv, ↓Zfw, ↓Zfx, ↓Zfy, ↓Zfz, ↓Zga, ↓Zgb, ↓Zgc, ↓Zgd, ↓Zge, ↓Zgf, ↓Zgg, ↓Zgh, ↓Zgi, ↓Zgj, ↓Zgk, ↓Zgl, ↓Zgm, ↓Zgn, ↓Zgo, ↓Zgp, ↓Zgq, ↓Zgr, ↓Zgs, ↓Zgt, ↓Zgu, ↓Zgv, ↓Zgw, ↓Zgx, ↓Zgy, ↓Zgz, ↓Zha, ↓Zhb, ↓Zhc, ↓Zhd, ↓Zhe, ↓Zhf, ↓Zhg, ↓Zhh, ↓Zhi, ↓Zhj, ↓Zhk, ↓Zhl, ↓Zhm, ↓Zhn, ↓Zho, ↓Zhp, ↓Zhq, ↓Zhr, ↓Zhs, ↓Zht, ↓Zhu, ↓Zhv, ↓Zhw, ↓Zhx, ↓Zhy, ↓Zhz, ↓Zia, ↓Zib, ↓Zic, ↓Zid, ↓Zie, ↓Zif, ↓Zig, ↓Zih, ↓Zii, ↓Zij, ↓Zik, reduceIte, if_true, if_false, Bool.false_eq_true, Bool.and_true, Bool.true_and, Bool.and_false, Bool.false_and, Bool.or_true, Bool.true_or, Bool.or_false, Bool.false_or, Int.cast_ofNat_Int, Zil, Zim, beq_self_eq_true, Int.reduceBEq, Int.reduceLT, Int.reduceLE, Int.reduceEq, Int.reduceNeg, Nat.reduceLT, Zin, Zio, Ziq, Zir, Zis, Zit, Ziu, Ziv, Ziw, Zix, Ziy, Ziz, Zja, Zjb, Zjc, Zjd, Zje, Zjf, Zjg, Zjh, Zji, Zjj, Zjk, Zjl, Zjm, Zjn, Zjo, Zjp, Zjq, Zjr, Zjs, Zjt, Zju, Zjv, Zjw, Zjx, Zjy, Zjz, Zka, Zkb, Zkc, Zkd, Zke, Zkf, Zkg, Zkh, Zki, Zkj, Zkk, Zkl, Zkm, Zkn, Zko, Zkp, List.lookup_nil, Zkq, Zkr, Option.map_some, Option.map_none, Option.bind_some, Option.bind_none, List.map_nil, List.map_cons, List.nil_append, List.cons_append, List.append_nil, List.length_cons, List.length_nil, Nat.reduceAdd, Nat.reduceLeDiff, Nat.reduceEqDiff, Nat.reduceBEq, decide_true, decide_false, Bool.not_true, Bool.not_false, Zks, Zkt, Zku, Zkv, Zkw, Zkx, Zky, Zkz, Zla, Zlb, Zlc, Zld, Zle, Zlf, List.getElem?_cons_zero, List.getElem?_cons_succ, Zlg, Zlh, Zli, Zlj, Zlk, Zll, Zlm, Zln, Zlo, Zlp, Zlq, Zlr, Zls, Zlt, Zlu, Zlv, Zlw, Zlx, Zly, setX, Zlz, Zma, Zmb, Int.ofNat_lt, Int.ofNat_le, mul_ii (Bt.ok8 ha.1 hb.2 l), mul_ii (Bt.ok8 hb.1 ha.2 (by omega)), mul_ii (Bt.ok8 ha.2 hb.2 l), i_rat _ _ (dd_ne a b) (q_sub a b)]
theorem m_mul {a b : Rat} {j k : Nat} (ha : Sz j a) (hb : Sz k b) (l : j + k ≤ 50000000) : φ_Ratio_mul [.val (rD a), .val (rD b)] = .ok (.d (rD (a * b))) [] := by
  apply run_Ratio_mul
  unfold g_Ratio_mul
  simp -implicitDefEqProofs -dsimp only [↓Zaa, ↓Zab, ↓Zac, ↓Zad, ↓Zae, ↓Zaf, ↓Zag, ↓Zah, ↓Zai, ↓Zaj, ↓Zak, ↓Zal, ↓Zam, ↓Zan, ↓Zao, ↓Zap, ↓Zaq, ↓Zar, ↓Zas, ↓Zat, ↓Zau, ↓Zav, ↓Zaw, ↓Zax, ↓Zay, ↓Zaz, ↓Zba, ↓Zbb, ↓Zbc, ↓Zbd, ↓Zbe, ↓Zbf, ↓Zbg, ↓Zbh, ↓Zbi, ↓Zbj, ↓Zbk, ↓Zbl, ↓Zbm, ↓Zbn, ↓Zbo, ↓Zbp, ↓Zbq, ↓Zbr, ↓Zbs, ↓Zbt, ↓Zbu, ↓Zbv, ↓Zbw, ↓Zbx, ↓Zby, ↓Zbz, ↓Zca, ↓Zcb, ↓Zcc, ↓Zcd, ↓Zce, ↓Zcf, ↓Zcg, ↓Zch, ↓Zci, ↓Zcj, ↓Zck, ↓Zcl, ↓Zcm, ↓Zcn, ↓Zco, ↓Zcp, ↓Zcq, ↓Zcr, ↓Zcs, ↓Zct, ↓Zcu, ↓Zcv, ↓Zcw, ↓Zcx, ↓Zcy, ↓Zcz, ↓Zda, ↓Zdb, ↓Zdc, ↓Zdd, ↓Zde, ↓Zdf, ↓Zdg, ↓Zdh, ↓Zdi, ↓Zdj, ↓Zdk, ↓Zdl, ↓Zdm, ↓Zdn, ↓Zdo, ↓Zdp, ↓Zdq, ↓Zdr, ↓Zds, ↓Zdt, ↓Zdu, ↓Zdv, ↓Zdw, ↓Zdx, ↓Zdy, ↓Zdz, ↓Zea, ↓Zeb, ↓Zec, ↓Zed, ↓Zee, ↓Zef, ↓Zeg, ↓Zeh, ↓Zei, ↓Zej, ↓Zek, ↓Zel, ↓Zem, ↓Zen, ↓Zeo, ↓Zep, ↓Zeq, ↓Zer, ↓Zes, ↓Zet, ↓Zeu, ↓Zev, ↓Zew, ↓Zex, ↓Zey, ↓Zez, ↓Zfa, ↓Zfb, ↓Zfc, ↓Zfd, ↓Zfe, ↓Zff, ↓Zfg, ↓Zfh, ↓Zfi, ↓Zfj, ↓Zfk, ↓Zfl, ↓Zfm, ↓Zfn, ↓Zfo, ↓Zfp, ↓Zfq, ↓Zfr, ↓Zfs, ↓Zft, ↓Zfu, ↓Zfv, ↓Zfw, ↓Zfx, ↓Zfy, ↓Zfz, ↓Zga, ↓Zgb, ↓Zgc, ↓Zgd, ↓Zge, ↓Zgf, ↓Zgg, ↓Zgh, ↓Zgi, ↓Zgj, ↓Zgk, ↓Zgl, ↓Zgm, ↓Zgn, ↓Zgo, ↓Zgp, ↓Zgq, ↓Zgr, ↓Zgs, ↓Zgt, ↓Zgu, ↓Zgv, ↓Zgw, ↓Zgx, ↓Zgy, ↓Zgz, ↓Zha, ↓Zhb, ↓Zhc, ↓Zhd, ↓Zhe, ↓Zhf, ↓Zhg, ↓Zhh, ↓Zhi, ↓Zhj, ↓Zhk, ↓Zhl, ↓Zhm, ↓Zhn, ↓Zho, ↓Zhp, ↓Zhq, ↓Zhr, ↓Zhs, ↓Zht, ↓Zhu, ↓Zhv, ↓Zhw, ↓Zhx, ↓Zhy, ↓Zhz, ↓Zia, ↓Zib, ↓Zic, ↓Zid, ↓Zie, ↓Zif, ↓Zig, ↓Zih, ↓Zii, ↓Zij, ↓Zik, reduceIte, if_true, if_false, Bool.false_eq_true, Bool.and_true, Bool.true_and, Bool.and_false, Bool.false_and, Bool.or_true, Bool.true_or, Bool.or_false, Bool.false_or, Int.cast_ofNat_Int, Zil, Zim, beq_self_eq_true, Int.reduceBEq, Int.reduceLT, Int.reduceLE, Int.reduceEq, Int.reduceNeg, Nat.reduceLT, Zin, Zio, Ziq, Zir, Zis, Zit, Ziu, Ziv, Ziw, Zix, Ziy, Ziz, Zja, Zjb, Zjc, Zjd, Zje, Zjf, Zjg, Zjh, Zji, Zjj, Zjk, Zjl, Zjm, Zjn, Zjo, Zjp, Zjq, Zjr, Zjs, Zjt, Zju, Zjv, Zjw, Zjx, Zjy, Zjz, Zka, Zkb, Zkc, Zkd, Zke, Zkf, Zkg, Zkh, Zki, Zkj, Zkk, Zkl, Zkm, Zkn, Zko, Zkp, List.lookup_nil, Zkq, Zkr, Option.map_some, Option.map_none, Option.bind_some, Option.bind_none, List.map_nil, List.map_cons, List.nil_append, List.cons_append, List.append_nil, List.length_cons, List.length_nil, Nat.reduceAdd, Nat.reduceLeDiff, Nat.reduceEqDiff, Nat.reduceBEq, decide_true, decide_false, Bool.not_true, Bool.not_false, Zks, Zkt, Zku, Zkv, Zkw, Zkx, Zky, Zkz, Zla, Zlb, Zlc, Zld, Zle, Zlf, List.getElem?_cons_zero, List.getElem?_cons_succ, Zlg, Zlh, Zli, Zlj, Zlk, Zll, Zlm, Zln, Zlo, Zlp, Zlq, Zlr, Zls, Zlt, Zlu, Zlv, Zlw, Zlx, Zly, setX, Zlz, Zma, Zmb, Int.ofNat_lt, Int.ofNat_le, mul_ii (Bt.ok8 ha.1 hb.1 l), mul_ii (Bt.ok8 ha.2 hb.2 l), i_rat _ _ (dd_ne a b) (q_mul a b)]
theorem m_inv {a : Rat} (h : a ≠ 0) : φ_Ratio_inverse [.val (rD a)] = .ok (.d (rD a⁻¹)) [] := by
  apply run_Ratio_inverse
  unfold g_Ratio_inverse
  simp -implicitDefEqProofs -dsimp only [↓Zaa, ↓Zab, ↓Zac, ↓Zad, ↓Zae, ↓Zaf, ↓Zag, ↓Zah, ↓Zai, ↓Zaj, ↓Zak, ↓Zal, ↓Zam, ↓Zan, ↓Zao, ↓Zap, ↓Zaq, ↓Zar, ↓Zas, ↓Zat, ↓Zau, ↓Zav, ↓Zaw, ↓Zax, ↓Zay, ↓Zaz, ↓Zba, ↓Zbb, ↓Zbc, ↓Zbd, ↓Zbe, ↓Zbf, ↓Zbg, ↓Zbh, ↓Zbi, ↓Zbj, ↓Zbk, ↓Zbl, ↓Zbm, ↓Zbn, ↓Zbo, ↓Zbp, ↓Zbq, ↓Zbr, ↓Zbs, ↓Zbt, ↓Zbu, ↓Zbv, ↓Zbw, ↓Zbx, ↓Zby, ↓Zbz, ↓Zca, ↓Zcb, ↓Zcc, ↓Zcd, ↓Zce, ↓Zcf, ↓Zcg, ↓Zch, ↓Zci, ↓Zcj, ↓Zck, ↓Zcl, ↓Zcm, ↓Zcn, ↓Zco, ↓Zcp, ↓Zcq, ↓Zcr, ↓Zcs, ↓Zct, ↓Zcu, ↓Zcv, ↓Zcw, ↓Zcx, ↓Zcy, ↓Zcz, ↓Zda, ↓Zdb, ↓Zdc, ↓Zdd, ↓Zde, ↓Zdf, ↓Zdg, ↓Zdh, ↓Zdi, ↓Zdj, ↓Zdk, ↓Zdl, ↓Zdm, ↓Zdn, ↓Zdo, ↓Zdp, ↓Zdq, ↓Zdr, ↓Zds, ↓Zdt, ↓Zdu, ↓Zdv, ↓Zdw, ↓Zdx, ↓Zdy, ↓Zdz, ↓Zea, ↓Zeb, ↓Zec, ↓Zed, ↓Zee, ↓Zef, ↓Zeg, ↓Zeh, ↓Zei, ↓Zej, ↓Zek, ↓Zel, ↓Zem, ↓Zen, ↓Zeo, ↓Zep, ↓Zeq, ↓Zer, ↓Zes, ↓Zet, ↓Zeu, ↓Zev, ↓Zew, ↓Zex, ↓Zey, ↓Zez, ↓Zfa, ↓Zfb, ↓Zfc, ↓Zfd, ↓Zfe, ↓Zff, ↓Zfg, ↓Zfh, ↓Zfi, ↓Zfj, ↓Zfk, ↓Zfl, ↓Zfm, ↓Zfn, ↓Zfo, ↓Zfp, ↓Zfq, ↓Zfr, ↓Zfs, ↓Zft, ↓Zfu, ↓Zfv, ↓Zfw, ↓Zfx, ↓Zfy, ↓Zfz, ↓Zga, ↓Zgb, ↓Zgc, ↓Zgd, ↓Zge, ↓Zgf, ↓Zgg, ↓Zgh, ↓Zgi, ↓Zgj, ↓Zgk, ↓Zgl, ↓Zgm, ↓Zgn, ↓Zgo, ↓Zgp, ↓Zgq, ↓Zgr, ↓Zgs, ↓Zgt, ↓Zgu, ↓Zgv, ↓Zgw, ↓Zgx, ↓Zgy, ↓Zgz, ↓Zha, ↓Zhb, ↓Zhc, ↓Zhd, ↓Zhe, ↓Zhf, ↓Zhg, ↓Zhh, ↓Zhi, ↓Zhj, ↓Zhk, ↓Zhl, ↓Zhm, ↓Zhn, ↓Zho, ↓Zhp, ↓Zhq, ↓Zhr, ↓Zhs, ↓Zht, ↓Zhu, ↓Zhv, ↓Zhw, ↓Zhx, ↓Zhy, ↓Zhz, ↓Zia, ↓Zib, ↓Zic, ↓Zid, ↓Zie, ↓Zif, ↓Zig, ↓Zih, ↓Zii, ↓Zij, ↓Zik, reduceIte, if_true, if_false, Bool.false_eq_true, Bool.and_true, Bool.true_and, Bool.and_false, Bool.false_and, Bool.or_true, Bool.true_or, Bool.or_false, Bool.false_or, Int.cast_ofNat_Int, Zil, Zim, beq_self_eq_true, Int.reduceBEq, Int.reduceLT, Int.reduceLE, Int.reduceEq, Int.reduceNeg, Nat.reduceLT, Zin, Zio, Ziq, Zir, Zis, Zit, Ziu, Ziv, Ziw, Zix, Ziy, Ziz, Zja, Zjb, Zjc, Zjd, Zje, Zjf, Zjg, Zjh, Zji, Zjj, Zjk, Zjl, Zjm, Zjn, Zjo, Zjp, Zjq, Zjr, Zjs, Zjt, Zju, Zjv, Zjw, Zjx, Zjy, Zjz, Zka, Zkb, Zkc, Zkd, Zke, Zkf, Zkg, Zkh, Zki, Zkj, Zkk, Zkl, Zkm, Zkn, Zko, Zkp, List.lookup_nil, Zkq, Zkr, Option.map_some, Option.map_none, Option.bind_some, Option.bind_none, List.map_nil, List.map_cons, List.nil_append, List.cons_append, List.append_nil, List.length_cons, List.length_nil, Nat.reduceAdd, Nat.reduceLeDiff, Nat.reduceEqDiff, Nat.reduceBEq, decide_true, decide_false, Bool.not_true, Bool.not_false, Zks, Zkt, Zku, Zkv, Zkw, Zkx, Zky, Zkz, Zla, Zlb, Zlc, Zld, Zle, Zlf, List.getElem?_cons_zero, List.getElem?_cons_succ, Zlg, Zlh, Zli, Zlj, Zlk, Zll, Zlm, Zln, Zlo, Zlp, Zlq, Zlr, Zls, Zlt, Zlu, Zlv, Zlw, Zlx, Zly, setX, Zlz, Zma, Zmb, Int.ofNat_lt, Int.ofNat_le, i_rat _ _ (fun z => h (Rat.num_eq_zero.mp z)) (Rat.inv_def a).symm]
theorem m_neg {a : Rat} : φ_Ratio_neg [.val (rD a)] = .ok (.d (rD (-a))) [] := by
  apply run_Ratio_neg
  unfold g_Ratio_neg
  have e : Rat.divInt (-a.num) a.den = -a := by rw [← Rat.neg_divInt, Rat.num_divInt_den]
  simp -implicitDefEqProofs -dsimp only [↓Zaa, ↓Zab, ↓Zac, ↓Zad, ↓Zae, ↓Zaf, ↓Zag, ↓Zah, ↓Zai, ↓Zaj, ↓Zak, ↓Zal, ↓Zam, ↓Zan, ↓Zao, ↓Zap, ↓Zaq, ↓Zar, ↓Zas, ↓Zat, ↓Zau, ↓Zav, ↓Zaw, ↓Zax, ↓Zay, ↓Zaz, ↓Zba, ↓Zbb, ↓Zbc, ↓Zbd, ↓Zbe, ↓Zbf, ↓Zbg, ↓Zbh, ↓Zbi, ↓Zbj, ↓Zbk, ↓Zbl, ↓Zbm, ↓Zbn, ↓Zbo, ↓Zbp, ↓Zbq, ↓Zbr, ↓Zbs, ↓Zbt, ↓Zbu, ↓Zbv, ↓Zbw, ↓Zbx, ↓Zby, ↓Zbz, ↓Zca, ↓Zcb, ↓Zcc, ↓Zcd, ↓Zce, ↓Zcf, ↓Zcg, ↓Zch, ↓Zci, ↓Zcj, ↓Zck, ↓Zcl, ↓Zcm, ↓Zcn, ↓Zco, ↓Zcp, ↓Zcq, ↓Zcr, ↓Zcs, ↓Zct, ↓Zcu, ↓Zcv, ↓Zcw, ↓Zcx, ↓Zcy, ↓Zcz, ↓Zda, ↓Zdb, ↓Zdc, ↓Zdd, ↓Zde, ↓Zdf, ↓Zdg, ↓Zdh, ↓Zdi, ↓Zdj, ↓Zdk, ↓Zdl, ↓Zdm, ↓Zdn, ↓Zdo, ↓Zdp, ↓Zdq, ↓Zdr, ↓Zds, ↓Zdt, ↓Zdu, ↓Zdv, ↓Zdw, ↓Zdx, ↓Zdy, ↓Zdz, ↓Zea, ↓Zeb, ↓Zec, ↓Zed, ↓Zee, ↓Zef, ↓Zeg, ↓Zeh, ↓Zei, ↓Zej, ↓Zek, ↓Zel, ↓Zem, ↓Zen, ↓Zeo, ↓Zep, ↓Zeq, ↓Zer, ↓Zes, ↓Zet, ↓Zeu, ↓Zev, ↓Zew, ↓Zex, ↓Zey, ↓Zez, ↓Zfa, ↓Zfb, ↓Zfc, ↓Zfd, ↓Zfe, ↓Zff, ↓Zfg, ↓Zfh, ↓Zfi, ↓Zfj, ↓Zfk, ↓Zfl, ↓Zfm, ↓Zfn, ↓Zfo, ↓Zfp, ↓Zfq, ↓Zfr, ↓Zfs, ↓Zft, ↓Zfu, ↓Zfv, ↓Zfw, ↓Zfx, ↓Zfy, ↓Zfz, ↓Zga, ↓Zgb, ↓Zgc, ↓Zgd, ↓Zge, ↓Zgf, ↓Zgg, ↓Zgh, ↓Zgi, ↓Zgj, ↓Zgk, ↓Zgl, ↓Zgm, ↓Zgn, ↓Zgo, ↓Zgp, ↓Zgq, ↓Zgr, ↓Zgs, ↓Zgt, ↓Zgu, ↓Zgv, ↓Zgw, ↓Zgx, ↓Zgy, ↓Zgz, ↓Zha, ↓Zhb, ↓Zhc, ↓Zhd, ↓Zhe, ↓Zhf, ↓Zhg, ↓Zhh, ↓Zhi, ↓Zhj, ↓Zhk, ↓Zhl, ↓Zhm, ↓Zhn, ↓Zho, ↓Zhp, ↓Zhq, ↓Zhr, ↓Zhs, ↓Zht, ↓Zhu, ↓Zhv, ↓Zhw, ↓Zhx, ↓Zhy, ↓Zhz, ↓Zia, ↓Zib, ↓Zic, ↓Zid, ↓Zie, ↓Zif, ↓Zig, ↓Zih, ↓Zii, ↓Zij, ↓Zik, reduceIte, if_true, if_false, Bool.false_eq_true, Bool.and_true, Bool.true_and, Bool.and_false, Bool.false_and, Bool.or_true, Bool.true_or, Bool.or_false, Bool.false_or, Int.cast_ofNat_Int, Zil, Zim, beq_self_eq_true, Int.reduceBEq, Int.reduceLT, Int.reduceLE, Int.reduceEq, Int.reduceNeg, Nat.reduceLT, Zin, Zio, Ziq, Zir, Zis, Zit, Ziu, Ziv, Ziw, Zix, Ziy, Ziz, Zja, Zjb, Zjc, Zjd, Zje, Zjf, Zjg, Zjh, Zji, Zjj, Zjk, Zjl, Zjm, Zjn, Zjo, Zjp, Zjq, Zjr, Zjs, Zjt, Zju, Zjv, Zjw, Zjx, Zjy, Zjz, Zka, Zkb, Zkc, Zkd, Zke, Zkf, Zkg, Zkh, Zki, Zkj, Zkk, Zkl, Zkm, Zkn, Zko, Zkp, List.lookup_nil, Zkq, Zkr, Option.map_some, Option.map_none, Option.bind_some, Option.bind_none, List.map_nil, List.map_cons, List.nil_append, List.cons_append, List.append_nil, List.length_cons, List.length_nil, Nat.reduceAdd, Nat.reduceLeDiff, Nat.reduceEqDiff, Nat.reduceBEq, decide_true, decide_false, Bool.not_true, Bool.not_false, Zks, Zkt, Zku, Zkv, Zkw, Zkx, Zky, Zkz, Zla, Zlb, Zlc, Zld, Zle, Zlf, List.getElem?_cons_zero, List.getElem?_cons_succ, Zlg, Zlh, Zli, Zlj, Zlk, Zll, Zlm, Zln, Zlo, Zlp, Zlq, Zlr, Zls, Zlt, Zlu, Zlv, Zlw, Zlx, Zly, setX, Zlz, Zma, Zmb, Int.ofNat_lt, Int.ofNat_le, i_rat _ _ (den_ne' a) e]
theorem m_over {a b : Rat} {j k : Nat} (ha : Sz j a) (hb : Sz k b) (h : b ≠ 0) (l : j + k ≤ 50000000) : φ_Ratio_over [.val (rD a), .val (rD b)] = .ok (.d (rD (a * b⁻¹))) [] := by
  apply run_Ratio_over
  unfold g_Ratio_over
  have e0 : b.num ≠ 0 := fun z => h (Rat.num_eq_zero.mp z)
  have e : Rat.divInt (a.num * b.den) (a.den * b.num) = a * b⁻¹ := by rw [Rat.inv_def b, ← Rat.divInt_mul_divInt, Rat.num_divInt_den]
  simp -implicitDefEqProofs -dsimp only [↓Zaa, ↓Zab, ↓Zac, ↓Zad, ↓Zae, ↓Zaf, ↓Zag, ↓Zah, ↓Zai, ↓Zaj, ↓Zak, ↓Zal, ↓Zam, ↓Zan, ↓Zao, ↓Zap, ↓Zaq, ↓Zar, ↓Zas, ↓Zat, ↓Zau, ↓Zav, ↓Zaw, ↓Zax, ↓Zay, ↓Zaz, ↓Zba, ↓Zbb, ↓Zbc, ↓Zbd, ↓Zbe, ↓Zbf, ↓Zbg, ↓Zbh, ↓Zbi, ↓Zbj, ↓Zbk, ↓Zbl, ↓Zbm, ↓Zbn, ↓Zbo, ↓Zbp, ↓Zbq, ↓Zbr, ↓Zbs, ↓Zbt, ↓Zbu, ↓Zbv, ↓Zbw, ↓Zbx, ↓Zby, ↓Zbz, ↓Zca, ↓Zcb, ↓Zcc, ↓Zcd, ↓Zce, ↓Zcf, ↓Zcg, ↓Zch, ↓Zci, ↓Zcj, ↓Zck, ↓Zcl, ↓Zcm, ↓Zcn, ↓Zco, ↓Zcp, ↓Zcq, ↓Zcr, ↓Zcs, ↓Zct, ↓Zcu, ↓Zcv, ↓Zcw, ↓Zcx, ↓Zcy, ↓Zcz, ↓Zda, ↓Zdb, ↓Zdc, ↓Zdd, ↓Zde, ↓Zdf, ↓Zdg, ↓Zdh, ↓Zdi, ↓Zdj, ↓Zdk, ↓Zdl, ↓Zdm, ↓Zdn, ↓Zdo, ↓Zdp, ↓Zdq, ↓Zdr, ↓Zds, ↓Zdt, ↓Zdu, ↓Zdv, ↓Zdw, ↓Zdx, ↓Zdy, ↓Zdz, ↓Zea, ↓Zeb, ↓Zec, ↓Zed, ↓Zee, ↓Zef, ↓Zeg, ↓Zeh, ↓Zei, ↓Zej, ↓Zek, ↓Zel, ↓Zem, ↓Zen, ↓Zeo, ↓Zep, ↓Zeq, ↓Zer, ↓Zes, ↓Zet, ↓Zeu, ↓Zev, ↓Zew, ↓Zex, ↓Zey, ↓Zez, ↓Zfa, ↓Zfb, ↓Zfc, ↓Zfd, ↓Zfe, ↓Zff, ↓Zfg, ↓Zfh, ↓Zfi, ↓Zfj, ↓Zfk, ↓Zfl, ↓Zfm, ↓Zfn, ↓Zfo, ↓Zfp, ↓Zfq, ↓Zfr, ↓Zfs, ↓Zft, ↓Zfu, ↓Zfv, ↓Zfw, ↓Zfx, ↓Zfy, ↓Zfz, ↓Zga, ↓Zgb, ↓Zgc, ↓Zgd, ↓Zge, ↓Zgf, ↓Zgg, ↓Zgh, ↓Zgi, ↓Zgj, ↓Zgk, ↓Zgl, ↓Zgm, ↓Zgn, ↓Zgo, ↓Zgp, ↓Zgq, ↓Zgr, ↓Zgs, ↓Zgt, ↓Zgu, ↓Zgv, ↓Zgw, ↓Zgx, ↓Zgy, ↓Zgz, ↓Zha, ↓Zhb, ↓Zhc, ↓Zhd, ↓Zhe, ↓Zhf, ↓Zhg, ↓Zhh, ↓Zhi, ↓Zhj, ↓Zhk, ↓Zhl, ↓Zhm, ↓Zhn, ↓Zho, ↓Zhp, ↓Zhq, ↓Zhr, ↓Zhs, ↓Zht, ↓Zhu, ↓Zhv, ↓Zhw, ↓Zhx, ↓Zhy, ↓Zhz, ↓Zia, ↓Zib, ↓Zic, ↓Zid, ↓Zie, ↓Zif, ↓Zig, ↓Zih, ↓Zii, ↓Zij, ↓Zik, reduceIte, if_true, if_false, Bool.false_eq_true, Bool.and_true, Bool.true_and, Bool.and_false, Bool.false_and, Bool.or_true, Bool.true_or, Bool.or_false, Bool.false_or, Int.cast_ofNat_Int, Zil, Zim, beq_self_eq_true, Int.reduceBEq, Int.reduceLT, Int.reduceLE, Int.reduceEq, Int.reduceNeg, Nat.reduceLT, Zin, Zio, Ziq, Zir, Zis, Zit, Ziu, Ziv, Ziw, Zix, Ziy, Ziz, Zja, Zjb, Zjc, Zjd, Zje, Zjf, Zjg, Zjh, Zji, Zjj, Zjk, Zjl, Zjm, Zjn, Zjo, Zjp, Zjq, Zjr, Zjs, Zjt, Zju, Zjv, Zjw, Zjx, Zjy, Zjz, Zka, Zkb, Zkc, Zkd, Zke, Zkf, Zkg, Zkh, Zki, Zkj, Zkk, Zkl, Zkm, Zkn, Zko, Zkp, List.lookup_nil, Zkq, Zkr, Option.map_some, Option.map_none, Option.bind_some, Option.bind_none, List.map_nil, List.map_cons, List.nil_append, List.cons_append, List.append_nil, List.length_cons, List.length_nil, Nat.reduceAdd, Nat.reduceLeDiff, Nat.reduceEqDiff, Nat.reduceBEq, decide_true, decide_false, Bool.not_true, Bool.not_false, Zks, Zkt, Zku, Zkv, Zkw, Zkx, Zky, Zkz, Zla, Zlb, Zlc, Zld, Zle, Zlf, List.getElem?_cons_zero, List.getElem?_cons_succ, Zlg, Zlh, Zli, Zlj, Zlk, Zll, Zlm, Zln, Zlo, Zlp, Zlq, Zlr, Zls, Zlt, Zlu, Zlv, Zlw, Zlx, Zly, setX, Zlz, Zma, Zmb, Int.ofNat_lt, Int.ofNat_le, mul_ii (Bt.ok8 ha.1 hb.2 l), mul_ii (Bt.ok8 ha.2 hb.1 l), i_rat _ _ (Int.mul_ne_zero (den_ne' a) e0) e]
end L2.S.W

set_option Elab.async false
set_option linter.all false
set_option maxRecDepth 100000
set_option maxHeartbeats 8000000
namespace L2.S.W
open PySem PySem.Spec PyProof.Rows L2 L2.S
theorem s_isint {i : Int} : φ_law_is_integer [.val (.int i)] = .ok (.d (.bl true)) [] := by
  apply run_law_is_integer
  unfold g_law_is_integer
  simp -implicitDefEqProofs -dsimp only [↓Zaa, ↓Zab, ↓Zac, ↓Zad, ↓Zae, ↓Zaf, ↓Zag, ↓Zah, ↓Zai, ↓Zaj, ↓Zak, ↓Zal, ↓Zam, ↓Zan, ↓Zao, ↓Zap, ↓Zaq, ↓Zar, ↓Zas, ↓Zat, ↓Zau, ↓Zav, ↓Zaw, ↓Zax, ↓Zay, ↓Zaz, ↓Zba, ↓Zbb, ↓Zbc, ↓Zbd, ↓Zbe, ↓Zbf, ↓Zbg, ↓Zbh, ↓Zbi, ↓Zbj, ↓Zbk, ↓Zbl, ↓Zbm, ↓Zbn, ↓Zbo, ↓Zbp, ↓Zbq, ↓Zbr, ↓Zbs, ↓Zbt, ↓Zbu, ↓Zbv, ↓Zbw, ↓Zbx, ↓Zby, ↓Zbz, ↓Zca, ↓Zcb, ↓Zcc, ↓Zcd, ↓Zce, ↓Zcf, ↓Zcg, ↓Zch, ↓Zci, ↓Zcj, ↓Zck, ↓Zcl, ↓Zcm, ↓Zcn, ↓Zco, ↓Zcp, ↓Zcq, ↓Zcr, ↓Zcs, ↓Zct, ↓Zcu, ↓Zcv, ↓Zcw, ↓Zcx, ↓Zcy, ↓Zcz, ↓Zda, ↓Zdb, ↓Zdc, ↓Zdd, ↓Zde, ↓Zdf, ↓Zdg, ↓Zdh, ↓Zdi, ↓Zdj, ↓Zdk, ↓Zdl, ↓Zdm, ↓Zdn, ↓Zdo, ↓Zdp, ↓Zdq, ↓Zdr, ↓Zds, ↓Zdt, ↓Zdu, ↓Zdv, ↓Zdw, ↓Zdx, ↓Zdy, ↓Zdz, ↓Zea, ↓Zeb, ↓Zec, ↓Zed, ↓Zee, ↓Zef, ↓Zeg, ↓Zeh, ↓Zei, ↓Zej, ↓Zek, ↓Zel, ↓Zem, ↓Zen, ↓Zeo, ↓Zep, ↓Zeq, ↓Zer, ↓Zes, ↓Zet, ↓Zeu, ↓Zev, ↓Zew, ↓Zex, ↓Zey, ↓Zez, ↓Zfa, ↓Zfb, ↓Zfc, ↓Zfd, ↓Zfe, ↓Zff, ↓Zfg, ↓Zfh, ↓Zfi, ↓Zfj, ↓Zfk, ↓Zfl, ↓Zfm, ↓Zfn, ↓Zfo, ↓Zfp, ↓Zfq, ↓Zfr, ↓Zfs, ↓Zft, ↓Zfu, ↓Zfv, ↓Zfw, ↓Zfx, ↓Zfy, ↓Zfz, ↓Zga, ↓Zgb, ↓Zgc, ↓Zgd, ↓Zge, ↓Zgf, ↓Zgg, ↓Zgh, ↓Zgi, ↓Zgj, ↓Zgk, ↓Zgl, ↓Zgm, ↓Zgn, ↓Zgo, ↓Zgp, ↓Zgq, ↓Zgr, ↓Zgs, ↓Zgt, ↓Zgu, ↓Zgv, ↓Zgw, ↓Zgx, ↓Zgy, ↓Zgz, ↓Zha, ↓Zhb, ↓Zhc, ↓Zhd, ↓Zhe, ↓Zhf, ↓Zhg, ↓Zhh, ↓Zhi, ↓Zhj, ↓Zhk, ↓Zhl, ↓Zhm, ↓Zhn, ↓Zho, ↓Zhp, ↓Zhq, ↓Zhr, ↓Zhs, ↓Zht, ↓Zhu, ↓Zhv, ↓Zhw, ↓Zhx, ↓Zhy, ↓Zhz, ↓Zia, ↓Zib, ↓Zic, ↓Zid, ↓Zie, ↓Zif, ↓Zig, ↓Zih, ↓Zii, ↓Zij, ↓Zik, reduceIte, if_true, if_false, Bool.false_eq_true, Bool.and_true, Bool.true_and, Bool.and_false, Bool.false_and, Bool.or_true, Bool.true_or, Bool.or_false, Bool.false_or, Int.cast_ofNat_Int, Zil, Zim, beq_self_eq_true, Int.reduceBEq, Int.reduceLT, Int.reduceLE, Int.reduceEq, Int.reduceNeg, Nat.reduceLT, Zin, Zio, Ziq, Zir, Zis, Zit, Ziu, Ziv, Ziw, Zix, Ziy, Ziz, Zja, Zjb, Zjc, Zjd, Zje, Zjf, Zjg, Zjh, Zji, Zjj, Zjk, Zjl, Zjm, Zjn, Zjo, Zjp, Zjq, Zjr, Zjs, Zjt, Zju, Zjv, Zjw, Zjx, Zjy, Zjz, Zka, Zkb, Zkc, Zkd, Zke, Zkf, Zkg, Zkh, Zki, Zkj, Zkk, Zkl, Zkm, Zkn, Zko, Zkp, List.lookup_nil, Zkq, Zkr, Option.map_some, Option.map_none, Option.bind_some, Option.bind_none, List.map_nil, List.map_cons, List.nil_append, List.cons_append, List.append_nil, List.length_cons, List.length_nil, Nat.reduceAdd, Nat.reduceLeDiff, Nat.reduceEqDiff, Nat.reduceBEq, decide_true, decide_false, Bool.not_true, Bool.not_false, Zks, Zkt, Zku, Zkv, Zkw, Zkx, Zky, Zkz, Zla, Zlb, Zlc, Zld, Zle, Zlf, List.getElem?_cons_zero, List.getElem?_cons_succ, Zlg, Zlh, Zli, Zlj, Zlk, Zll, Zlm, Zln, Zlo, Zlp, Zlq, Zlr, Zls, Zlt, Zlu, Zlv, Zlw, Zlx, Zly, setX, Zlz, Zma, Zmb, Int.ofNat_lt, Int.ofNat_le]
theorem s_gcd (a b : Int) : φ_law_gcd [.val (.int a), .val (.int b)] = .ok (.d (.int (Int.gcd a b))) [] := by
  apply run_law_gcd
  unfold g_law_gcd
  simp -implicitDefEqProofs -dsimp only [↓Zaa, ↓Zab, ↓Zac, ↓Zad, ↓Zae, ↓Zaf, ↓Zag, ↓Zah, ↓Zai, ↓Zaj, ↓Zak, ↓Zal, ↓Zam, ↓Zan, ↓Zao, ↓Zap, ↓Zaq, ↓Zar, ↓Zas, ↓Zat, ↓Zau, ↓Zav, ↓Zaw, ↓Zax, ↓Zay, ↓Zaz, ↓Zba, ↓Zbb, ↓Zbc, ↓Zbd, ↓Zbe, ↓Zbf, ↓Zbg, ↓Zbh, ↓Zbi, ↓Zbj, ↓Zbk, ↓Zbl, ↓Zbm, ↓Zbn, ↓Zbo, ↓Zbp, ↓Zbq, ↓Zbr, ↓Zbs, ↓Zbt, ↓Zbu, ↓Zbv, ↓Zbw, ↓Zbx, ↓Zby, ↓Zbz, ↓Zca, ↓Zcb, ↓Zcc, ↓Zcd, ↓Zce, ↓Zcf, ↓Zcg, ↓Zch, ↓Zci, ↓Zcj, ↓Zck, ↓Zcl, ↓Zcm, ↓Zcn, ↓Zco, ↓Zcp, ↓Zcq, ↓Zcr, ↓Zcs, ↓Zct, ↓Zcu, ↓Zcv, ↓Zcw, ↓Zcx, ↓Zcy, ↓Zcz, ↓Zda, ↓Zdb, ↓Zdc, ↓Zdd, ↓Zde, ↓Zdf, ↓Zdg, ↓Zdh, ↓Zdi, ↓Zdj, ↓Zdk, ↓Zdl, ↓Zdm, ↓Zdn, ↓Zdo, ↓Zdp, ↓Zdq, ↓Zdr, ↓Zds, ↓Zdt, ↓Zdu, ↓Zdv, ↓Zdw, ↓Zdx, ↓Zdy, ↓Zdz, ↓Zea, ↓Zeb, ↓Zec, ↓Zed, ↓Zee, ↓Zef, ↓Zeg, ↓Zeh, ↓Zei, ↓Zej, ↓Zek, ↓Zel, ↓Zem, ↓Zen, ↓Zeo, ↓Zep, ↓Zeq, ↓Zer, ↓Zes, ↓Zet, ↓Zeu, ↓Zev, ↓Zew, ↓Zex, ↓Zey, ↓Zez, ↓Zfa, ↓Zfb, ↓Zfc, ↓Zfd, ↓Zfe, ↓Zff, ↓Zfg, ↓Zfh, ↓Zfi, ↓Zfj, ↓Zfk, ↓Zfl, ↓Zfm, ↓Zfn, ↓Zfo, ↓Zfp, ↓Zfq, ↓Zfr, ↓Zfs, ↓Zft, ↓Zfu, ↓Zfv, ↓Zfw, ↓Zfx, ↓Zfy, ↓Zfz, ↓Zga, ↓Zgb, ↓Zgc, ↓Zgd, ↓Zge, ↓Zgf, ↓Zgg, ↓Zgh, ↓Zgi, ↓Zgj, ↓Zgk, ↓Zgl, ↓Zgm, ↓Zgn, ↓Zgo, ↓Zgp, ↓Zgq, ↓Zgr, ↓Zgs, ↓Zgt, ↓Zgu, ↓Zgv, ↓Zgw, ↓Zgx, ↓Zgy, ↓Zgz, ↓Zha, ↓Zhb, ↓Zhc, ↓Zhd, ↓Zhe, ↓Zhf, ↓Zhg, ↓Zhh, ↓Zhi, ↓Zhj, ↓Zhk, ↓Zhl, ↓Zhm, ↓Zhn, ↓Zho, ↓Zhp, ↓Zhq, ↓Zhr, ↓Zhs, ↓Zht, ↓Zhu, ↓Zhv, ↓Zhw, ↓Zhx, ↓Zhy, ↓Zhz, ↓Zia, ↓Zib, ↓Zic, ↓Zid, ↓Zie, ↓Zif, ↓Zig, ↓Zih, ↓Zii, ↓Zij, ↓Zik, reduceIte, if_true, if_false, Bool.false_eq_true, Bool.and_true, Bool.true_and, Bool.and_false, Bool.false_and, Bool.or_true, Bool.true_or, Bool.or_false, Bool.false_or, Int.cast_ofNat_Int, Zil, Zim, beq_self_eq_true, Int.reduceBEq, Int.reduceLT, Int.reduceLE, Int.reduceEq, Int.reduceNeg, Nat.reduceLT, Zin, Zio, Ziq, Zir, Zis, Zit, Ziu, Ziv, Ziw, Zix, Ziy, Ziz, Zja, Zjb, Zjc, Zjd, Zje, Zjf, Zjg, Zjh, Zji, Zjj, Zjk, Zjl, Zjm, Zjn, Zjo, Zjp, Zjq, Zjr, Zjs, Zjt, Zju, Zjv, Zjw, Zjx, Zjy, Zjz, Zka, Zkb, Zkc, Zkd, Zke, Zkf, Zkg, Zkh, Zki, Zkj, Zkk, Zkl, Zkm, Zkn, Zko, Zkp, List.lookup_nil, Zkq, Zkr, Option.map_some, Option.map_none, Option.bind_some, Option.bind_none, List.map_nil, List.map_cons, List.nil_append, List.cons_append, List.append_nil, List.length_cons, List.length_nil, Nat.reduceAdd, Nat.reduceLeDiff, Nat.reduceEqDiff, Nat.reduceBEq, decide_true, decide_false, Bool.not_true, Bool.not_false, Zks, Zkt, Zku, Zkv, Zkw, Zkx, Zky, Zkz, Zla, Zlb, Zlc, Zld, Zle, Zlf, List.getElem?_cons_zero, List.getElem?_cons_succ, Zlg, Zlh, Zli, Zlj, Zlk, Zll, Zlm, Zln, Zlo, Zlp, Zlq, Zlr, Zls, Zlt, Zlu, Zlv, Zlw, Zlx, Zly, setX, Zlz, Zma, Zmb, Int.ofNat_lt, Int.ofNat_le]
  refine wh_inv (fun e => ∃ (f s : Nat) (x : SV), e = [.val (.int a), .val (.int b), .val (.int f), .val (.int s), x] ∧ Fr1 x ∧ Nat.gcd f s = Int.gcd a b) (fun e => match e[3]? with | some (SV.val (D.int s)) => s.natAbs | _ => 0) ?_ ?_ ?_
  · exact ⟨a.natAbs, b.natAbs, .un, rfl, .un, rfl⟩
  · simp [fuelE, sizV, sizD]
    omega
  · rintro e ⟨f, s, x, rfl, hx, hg⟩
    by_cases hs : s = 0
    · subst hs
      simp -implicitDefEqProofs -dsimp only [↓Zaa, ↓Zab, ↓Zac, ↓Zad, ↓Zae, ↓Zaf, ↓Zag, ↓Zah, ↓Zai, ↓Zaj, ↓Zak, ↓Zal, ↓Zam, ↓Zan, ↓Zao, ↓Zap, ↓Zaq, ↓Zar, ↓Zas, ↓Zat, ↓Zau, ↓Zav, ↓Zaw, ↓Zax, ↓Zay, ↓Zaz, ↓Zba, ↓Zbb, ↓Zbc, ↓Zbd, ↓Zbe, ↓Zbf, ↓Zbg, ↓Zbh, ↓Zbi, ↓Zbj, ↓Zbk, ↓Zbl, ↓Zbm, ↓Zbn, ↓Zbo, ↓Zbp, ↓Zbq, ↓Zbr, ↓Zbs, ↓Zbt, ↓Zbu, ↓Zbv, ↓Zbw, ↓Zbx, ↓Zby, ↓Zbz, ↓Zca, ↓Zcb, ↓Zcc, ↓Zcd, ↓Zce, ↓Zcf, ↓Zcg, ↓Zch, ↓Zci, ↓Zcj, ↓Zck, ↓Zcl, ↓Zcm, ↓Zcn, ↓Zco, ↓Zcp, ↓Zcq, ↓Zcr, ↓Zcs, ↓Zct, ↓Zcu, ↓Zcv, ↓Zcw, ↓Zcx, ↓Zcy, ↓Zcz, ↓Zda, ↓Zdb, ↓Zdc, ↓Zdd, ↓Zde, ↓Zdf, ↓Zdg, ↓Zdh, ↓Zdi, ↓Zdj, ↓Zdk, ↓Zdl, ↓Zdm, ↓Zdn, ↓Zdo, ↓Zdp, ↓Zdq, ↓Zdr, ↓Zds, ↓Zdt, ↓Zdu, ↓Zdv, ↓Zdw, ↓Zdx, ↓Zdy, ↓Zdz, ↓Zea, ↓Zeb, ↓Zec, ↓Zed, ↓Zee, ↓Zef, ↓Zeg, ↓Zeh, ↓Zei, ↓Zej, ↓Zek, ↓Zel, ↓Zem, ↓Zen, ↓Zeo, ↓Zep, ↓Zeq, ↓Zer, ↓Zes, ↓Zet, ↓Zeu, ↓Zev, ↓Zew, ↓Zex, ↓Zey, ↓Zez, ↓Zfa, ↓Zfb, ↓Zfc, ↓Zfd, ↓Zfe, ↓Zff, ↓Zfg, ↓Zfh, ↓Zfi, ↓Zfj, ↓Zfk, ↓Zfl, ↓Zfm, ↓Zfn, ↓Zfo, ↓Zfp, ↓Zfq, ↓Zfr, ↓Zfs, ↓Zft, ↓Zfu, ↓Zfv, ↓Zfw, ↓Zfx, ↓Zfy, ↓Zfz, ↓Zga, ↓Zgb, ↓Zgc, ↓Zgd, ↓Zge, ↓Zgf, ↓Zgg, ↓Zgh, ↓Zgi, ↓Zgj, ↓Zgk, ↓Zgl, ↓Zgm, ↓Zgn, ↓Zgo, ↓Zgp, ↓Zgq, ↓Zgr, ↓Zgs, ↓Zgt, ↓Zgu, ↓Zgv, ↓Zgw, ↓Zgx, ↓Zgy, ↓Zgz, ↓Zha, ↓Zhb, ↓Zhc, ↓Zhd, ↓Zhe, ↓Zhf, ↓Zhg, ↓Zhh, ↓Zhi, ↓Zhj, ↓Zhk, ↓Zhl, ↓Zhm, ↓Zhn, ↓Zho, ↓Zhp, ↓Zhq, ↓Zhr, ↓Zhs, ↓Zht, ↓Zhu, ↓Zhv, ↓Zhw, ↓Zhx, ↓Zhy, ↓Zhz, ↓Zia, ↓Zib, ↓Zic, ↓Zid, ↓Zie, ↓Zif, ↓Zig, ↓Zih, ↓Zii, ↓Zij, ↓Zik, reduceIte, if_true, if_false, Bool.false_eq_true, Bool.and_true, Bool.true_and, Bool.and_false, Bool.false_and, Bool.or_true, Bool.true_or, Bool.or_false, Bool.false_or, Int.cast_ofNat_Int, Zil, Zim, beq_self_eq_true, Int.reduceBEq, Int.reduceLT, Int.reduceLE, Int.reduceEq, Int.reduceNeg, Nat.reduceLT, Zin, Zio, Ziq, Zir, Zis, Zit, Ziu, Ziv, Ziw, Zix, Ziy, Ziz, Zja, Zjb, Zjc, Zjd, Zje, Zjf, Zjg, Zjh, Zji, Zjj, Zjk, Zjl, Zjm, Zjn, Zjo, Zjp, Zjq, Zjr, Zjs, Zjt, Zju, Zjv, Zjw, Zjx, Zjy, Zjz, Zka, Zkb, Zkc, Zkd, Zke, Zkf, Zkg, Zkh, Zki, Zkj, Zkk, Zkl, Zkm, Zkn, Zko, Zkp, List.lookup_nil, Zkq, Zkr, Option.map_some, Option.map_none, Option.bind_some, Option.bind_none, List.map_nil, List.map_cons, List.nil_append, List.cons_append, List.append_nil, List.length_cons, List.length_nil, Nat.reduceAdd, Nat.reduceLeDiff, Nat.reduceEqDiff, Nat.reduceBEq, decide_true, decide_false, Bool.not_true, Bool.not_false, Zks, Zkt, Zku, Zkv, Zkw, Zkx, Zky, Zkz, Zla, Zlb, Zlc, Zld, Zle, Zlf, List.getElem?_cons_zero, List.getElem?_cons_succ, Zlg, Zlh, Zli, Zlj, Zlk, Zll, Zlm, Zln, Zlo, Zlp, Zlq, Zlr, Zls, Zlt, Zlu, Zlv, Zlw, Zlx, Zly, setX, Zlz, Zma, Zmb, Int.ofNat_lt, Int.ofNat_le, (rfl : (((0 : Nat) : Int) == 0) = true)]
      rw [← hg, Nat.gcd_zero_right]
    · have h0 : ((s : Int) == 0) = false := by simpa using hs
      simp -implicitDefEqProofs -dsimp only [↓Zaa, ↓Zab, ↓Zac, ↓Zad, ↓Zae, ↓Zaf, ↓Zag, ↓Zah, ↓Zai, ↓Zaj, ↓Zak, ↓Zal, ↓Zam, ↓Zan, ↓Zao, ↓Zap, ↓Zaq, ↓Zar, ↓Zas, ↓Zat, ↓Zau, ↓Zav, ↓Zaw, ↓Zax, ↓Zay, ↓Zaz, ↓Zba, ↓Zbb, ↓Zbc, ↓Zbd, ↓Zbe, ↓Zbf, ↓Zbg, ↓Zbh, ↓Zbi, ↓Zbj, ↓Zbk, ↓Zbl, ↓Zbm, ↓Zbn, ↓Zbo, ↓Zbp, ↓Zbq, ↓Zbr, ↓Zbs, ↓Zbt, ↓Zbu, ↓Zbv, ↓Zbw, ↓Zbx, ↓Zby, ↓Zbz, ↓Zca, ↓Zcb, ↓Zcc, ↓Zcd, ↓Zce, ↓Zcf, ↓Zcg, ↓Zch, ↓Zci, ↓Zcj, ↓Zck, ↓Zcl, ↓Zcm, ↓Zcn, ↓Zco, ↓Zcp, ↓Zcq, ↓Zcr, ↓Zcs, ↓Zct, ↓Zcu, ↓Zcv, ↓Zcw, ↓Zcx, ↓Zcy, ↓Zcz, ↓Zda, ↓Zdb, ↓Zdc, ↓Zdd, ↓Zde, ↓Zdf, ↓Zdg, ↓Zdh, ↓Zdi, ↓Zdj, ↓Zdk, ↓Zdl, ↓Zdm, ↓Zdn, ↓Zdo, ↓Zdp, ↓Zdq, ↓Zdr, ↓Zds, ↓Zdt, ↓Zdu, ↓Zdv, ↓Zdw, ↓Zdx, ↓Zdy, ↓Zdz, ↓Zea, ↓Zeb, ↓Zec, ↓Zed, ↓Zee, ↓Zef, ↓Zeg, ↓Zeh, ↓Zei, ↓Zej, ↓Zek, ↓Zel, ↓Zem, ↓Zen, ↓Zeo, ↓Zep, ↓Zeq, ↓Zer, ↓Zes, ↓Zet, ↓Zeu, ↓Zev, ↓Zew, ↓Zex, ↓Zey, ↓Zez, ↓Zfa, ↓Zfb, ↓Zfc, ↓Zfd, ↓Zfe, ↓Zff, ↓Zfg, ↓Zfh, ↓Zfi, ↓Zfj, ↓Zfk, ↓Zfl, ↓Zfm, ↓Zfn, ↓Zfo, ↓Zfp, ↓Zfq, ↓Zfr, ↓Zfs, ↓Zft, ↓Zfu, ↓Zfv, ↓Zfw, ↓Zfx, ↓Zfy, ↓Zfz, ↓Zga, ↓Zgb, ↓Zgc, ↓Zgd, ↓Zge, ↓Zgf, ↓Zgg, ↓Zgh, ↓Zgi, ↓Zgj, ↓Zgk, ↓Zgl, ↓Zgm, ↓Zgn, ↓Zgo, ↓Zgp, ↓Zgq, ↓Zgr, ↓Zgs, ↓Zgt, ↓Zgu, ↓Zgv, ↓Zgw, ↓Zgx, ↓Zgy, ↓Zgz, ↓Zha, ↓Zhb, ↓Zhc, ↓Zhd, ↓Zhe, ↓Zhf, ↓Zhg, ↓Zhh, ↓Zhi, ↓Zhj, ↓Zhk, ↓Zhl, ↓Zhm, ↓Zhn, ↓Zho, ↓Zhp, ↓Zhq, ↓Zhr, ↓Zhs, ↓Zht, ↓Zhu, ↓Zhv, ↓Zhw, ↓Zhx, ↓Zhy, ↓Zhz, ↓Zia, ↓Zib, ↓Zic, ↓Zid, ↓Zie, ↓Zif, ↓Zig, ↓Zih, ↓Zii, ↓Zij, ↓Zik, reduceIte, if_true, if_false, Bool.false_eq_true, Bool.and_true, Bool.true_and, Bool.and_false, Bool.false_and, Bool.or_true, Bool.true_or, Bool.or_false, Bool.false_or, Int.cast_ofNat_Int, Zil, Zim, beq_self_eq_true, Int.reduceBEq, Int.reduceLT, Int.reduceLE, Int.reduceEq, Int.reduceNeg, Nat.reduceLT, Zin, Zio, Ziq, Zir, Zis, Zit, Ziu, Ziv, Ziw, Zix, Ziy, Ziz, Zja, Zjb, Zjc, Zjd, Zje, Zjf, Zjg, Zjh, Zji, Zjj, Zjk, Zjl, Zjm, Zjn, Zjo, Zjp, Zjq, Zjr, Zjs, Zjt, Zju, Zjv, Zjw, Zjx, Zjy, Zjz, Zka, Zkb, Zkc, Zkd, Zke, Zkf, Zkg, Zkh, Zki, Zkj, Zkk, Zkl, Zkm, Zkn, Zko, Zkp, List.lookup_nil, Zkq, Zkr, Option.map_some, Option.map_none, Option.bind_some, Option.bind_none, List.map_nil, List.map_cons, List.nil_append, List.cons_append, List.append_nil, List.length_cons, List.length_nil, Nat.reduceAdd, Nat.reduceLeDiff, Nat.reduceEqDiff, Nat.reduceBEq, decide_true, decide_false, Bool.not_true, Bool.not_false, Zks, Zkt, Zku, Zkv, Zkw, Zkx, Zky, Zkz, Zla, Zlb, Zlc, Zld, Zle, Zlf, List.getElem?_cons_zero, List.getElem?_cons_succ, Zlg, Zlh, Zli, Zlj, Zlk, Zll, Zlm, Zln, Zlo, Zlp, Zlq, Zlr, Zls, Zlt, Zlu, Zlv, Zlw, Zlx, Zly, setX, Zlz, Zma, Zmb, Int.ofNat_lt, Int.ofNat_le, h0, hx, mod_ii (show (0 : Int) < (s : Int) by omega)]
      refine ⟨⟨s, f % s, .val (.int ((f : Int) % s)), by simp, .val, ?_⟩, ?_⟩
      · rw [← hg, Nat.gcd_comm f s, Nat.gcd_comm s (f % s), ← Nat.gcd_rec]
      · show (((f : Int) % (s : Int))).natAbs < ((s : Int)).natAbs
        have h1 := Int.emod_nonneg (f : Int) (show (s : Int) ≠ 0 by omega)
        have h2 := Int.emod_lt_of_pos (f : Int) (show (0 : Int) < (s : Int) by omega)
        omega
theorem s_pair {a b : Int} (hb : 0 < b) (hg : Int.gcd a b = 1) : φ_law_pair [.val (ob a b)] = .ok (.d (.tup [.int a, .int b])) [] := by
  apply run_law_pair
  unfold g_law_pair ob
  simp -implicitDefEqProofs -dsimp only [↓Zaa, ↓Zab, ↓Zac, ↓Zad, ↓Zae, ↓Zaf, ↓Zag, ↓Zah, ↓Zai, ↓Zaj, ↓Zak, ↓Zal, ↓Zam, ↓Zan, ↓Zao, ↓Zap, ↓Zaq, ↓Zar, ↓Zas, ↓Zat, ↓Zau, ↓Zav, ↓Zaw, ↓Zax, ↓Zay, ↓Zaz, ↓Zba, ↓Zbb, ↓Zbc, ↓Zbd, ↓Zbe, ↓Zbf, ↓Zbg, ↓Zbh, ↓Zbi, ↓Zbj, ↓Zbk, ↓Zbl, ↓Zbm, ↓Zbn, ↓Zbo, ↓Zbp, ↓Zbq, ↓Zbr, ↓Zbs, ↓Zbt, ↓Zbu, ↓Zbv, ↓Zbw, ↓Zbx, ↓Zby, ↓Zbz, ↓Zca, ↓Zcb, ↓Zcc, ↓Zcd, ↓Zce, ↓Zcf, ↓Zcg, ↓Zch, ↓Zci, ↓Zcj, ↓Zck, ↓Zcl, ↓Zcm, ↓Zcn, ↓Zco, ↓Zcp, ↓Zcq, ↓Zcr, ↓Zcs, ↓Zct, ↓Zcu, ↓Zcv, ↓Zcw, ↓Zcx, ↓Zcy, ↓Zcz, ↓Zda, ↓Zdb, ↓Zdc, ↓Zdd, ↓Zde, ↓Zdf, ↓Zdg, ↓Zdh, ↓Zdi, ↓Zdj, ↓Zdk, ↓Zdl, ↓Zdm, ↓Zdn, ↓Zdo, ↓Zdp, ↓Zdq, ↓Zdr, ↓Zds, ↓Zdt, ↓Zdu, ↓Zdv, ↓Zdw, ↓Zdx, ↓Zdy, ↓Zdz, ↓Zea, ↓Zeb, ↓Zec, ↓Zed, ↓Zee, ↓Zef, ↓Zeg, ↓Zeh, ↓Zei, ↓Zej, ↓Zek, ↓Zel, ↓Zem, ↓Zen, ↓Zeo, ↓Zep, ↓Zeq, ↓Zer, ↓Zes, ↓Zet, ↓Zeu, ↓Zev, ↓Zew, ↓Zex, ↓Zey, ↓Zez, ↓Zfa, ↓Zfb, ↓Zfc, ↓Zfd, ↓Zfe, ↓Zff, ↓Zfg, ↓Zfh, ↓Zfi, ↓Zfj, ↓Zfk, ↓Zfl, ↓Zfm, ↓Zfn, ↓Zfo, ↓Zfp, ↓Zfq, ↓Zfr, ↓Zfs, ↓Zft, ↓Zfu, ↓Zfv, ↓Zfw, ↓Zfx, ↓Zfy, ↓Zfz, ↓Zga, ↓Zgb, ↓Zgc, ↓Zgd, ↓Zge, ↓Zgf, ↓Zgg, ↓Zgh, ↓Zgi, ↓Zgj, ↓Zgk, ↓Zgl, ↓Zgm, ↓Zgn, ↓Zgo, ↓Zgp, ↓Zgq, ↓Zgr, ↓Zgs, ↓Zgt, ↓Zgu, ↓Zgv, ↓Zgw, ↓Zgx, ↓Zgy, ↓Zgz, ↓Zha, ↓Zhb, ↓Zhc, ↓Zhd, ↓Zhe, ↓Zhf, ↓Zhg, ↓Zhh, ↓Zhi, ↓Zhj, ↓Zhk, ↓Zhl, ↓Zhm, ↓Zhn, ↓Zho, ↓Zhp, ↓Zhq, ↓Zhr, ↓Zhs, ↓Zht, ↓Zhu, ↓Zhv, ↓Zhw, ↓Zhx, ↓Zhy, ↓Zhz, ↓Zia, ↓Zib, ↓Zic, ↓Zid, ↓Zie, ↓Zif, ↓Zig, ↓Zih, ↓Zii, ↓Zij, ↓Zik, reduceIte, if_true, if_false, Bool.false_eq_true, Bool.and_true, Bool.true_and, Bool.and_false, Bool.false_and, Bool.or_true, Bool.true_or, Bool.or_false, Bool.false_or, Int.cast_ofNat_Int, Zil, Zim, beq_self_eq_true, Int.reduceBEq, Int.reduceLT, Int.reduceLE, Int.reduceEq, Int.reduceNeg, Nat.reduceLT, Zin, Zio, Ziq, Zir, Zis, Zit, Ziu, Ziv, Ziw, Zix, Ziy, Ziz, Zja, Zjb, Zjc, Zjd, Zje, Zjf, Zjg, Zjh, Zji, Zjj, Zjk, Zjl, Zjm, Zjn, Zjo, Zjp, Zjq, Zjr, Zjs, Zjt, Zju, Zjv, Zjw, Zjx, Zjy, Zjz, Zka, Zkb, Zkc, Zkd, Zke, Zkf, Zkg, Zkh, Zki, Zkj, Zkk, Zkl, Zkm, Zkn, Zko, Zkp, List.lookup_nil, Zkq, Zkr, Option.map_some, Option.map_none, Option.bind_some, Option.bind_none, List.map_nil, List.map_cons, List.nil_append, List.cons_append, List.append_nil, List.length_cons, List.length_nil, Nat.reduceAdd, Nat.reduceLeDiff, Nat.reduceEqDiff, Nat.reduceBEq, decide_true, decide_false, Bool.not_true, Bool.not_false, Zks, Zkt, Zku, Zkv, Zkw, Zkx, Zky, Zkz, Zla, Zlb, Zlc, Zld, Zle, Zlf, List.getElem?_cons_zero, List.getElem?_cons_succ, Zlg, Zlh, Zli, Zlj, Zlk, Zll, Zlm, Zln, Zlo, Zlp, Zlq, Zlr, Zls, Zlt, Zlu, Zlv, Zlw, Zlx, Zly, setX, Zlz, Zma, Zmb, Int.ofNat_lt, Int.ofNat_le, s_isint, s_gcd, hg, show ¬ (b < 1) by omega, (rfl : (((1 : Nat) : Int) == 1) = true)]
theorem l_rat {n d : Int} (hd : d ≠ 0) {q : Rat} (h : Rat.divInt n d = q) : φ_law_rat [.val (.int n), .val (.int d)] = .ok (.d (pD q)) [] := by
  apply run_law_rat
  unfold g_law_rat
  have g0 := sgc_ne (n := n) hd
  have e : ∀ g : Int, g = sgc n d → n.fdiv g = q.num ∧ d.fdiv g = (q.den : Int) := fun g hg => by
    rw [hg, ← h, ← (nr_q hd).1, ← (nr_q hd).2]; exact ⟨rfl, rfl⟩
  simp -implicitDefEqProofs -dsimp only [↓Zaa, ↓Zab, ↓Zac, ↓Zad, ↓Zae, ↓Zaf, ↓Zag, ↓Zah, ↓Zai, ↓Zaj, ↓Zak, ↓Zal, ↓Zam, ↓Zan, ↓Zao, ↓Zap, ↓Zaq, ↓Zar, ↓Zas, ↓Zat, ↓Zau, ↓Zav, ↓Zaw, ↓Zax, ↓Zay, ↓Zaz, ↓Zba, ↓Zbb, ↓Zbc, ↓Zbd, ↓Zbe, ↓Zbf, ↓Zbg, ↓Zbh, ↓Zbi, ↓Zbj, ↓Zbk, ↓Zbl, ↓Zbm, ↓Zbn, ↓Zbo, ↓Zbp, ↓Zbq, ↓Zbr, ↓Zbs, ↓Zbt, ↓Zbu, ↓Zbv, ↓Zbw, ↓Zbx, ↓Zby, ↓Zbz, ↓Zca, ↓Zcb, ↓Zcc, ↓Zcd, ↓Zce, ↓Zcf, ↓Zcg, ↓Zch, ↓Zci, ↓Zcj, ↓Zck, ↓Zcl, ↓Zcm, ↓Zcn, ↓Zco, ↓Zcp, ↓Zcq, ↓Zcr, ↓Zcs, ↓Zct, ↓Zcu, ↓Zcv, ↓Zcw, ↓Zcx, ↓Zcy, ↓Zcz, ↓Zda, ↓Zdb, ↓Zdc, ↓Zdd, ↓Zde, ↓Zdf, ↓Zdg, ↓Zdh, ↓Zdi, ↓Zdj, ↓Zdk, ↓Zdl, ↓Zdm, ↓Zdn, ↓Zdo, ↓Zdp, ↓Zdq, ↓Zdr, ↓Zds, ↓Zdt, ↓Zdu, ↓Zdv, ↓Zdw, ↓Zdx, ↓Zdy, ↓Zdz, ↓Zea, ↓Zeb, ↓Zec, ↓Zed, ↓Zee, ↓Zef, ↓Zeg, ↓Zeh, ↓Zei, ↓Zej, ↓Zek, ↓Zel, ↓Zem, ↓Zen, ↓Zeo, ↓Zep, ↓Zeq, ↓Zer, ↓Zes, ↓Zet, ↓Zeu, ↓Zev, ↓Zew, ↓Zex, ↓Zey, ↓Zez, ↓Zfa, ↓Zfb, ↓Zfc, ↓Zfd, ↓Zfe, ↓Zff, ↓Zfg, ↓Zfh, ↓Zfi, ↓Zfj, ↓Zfk, ↓Zfl, ↓Zfm, ↓Zfn, ↓Zfo, ↓Zfp, ↓Zfq, ↓Zfr, ↓Zfs, ↓Zft, ↓Zfu, ↓Zfv, ↓Zfw, ↓Zfx, ↓Zfy, ↓Zfz, ↓Zga, ↓Zgb, ↓Zgc, ↓Zgd, ↓Zge, ↓Zgf, ↓Zgg, ↓Zgh, ↓Zgi, ↓Zgj, ↓Zgk, ↓Zgl, ↓Zgm, ↓Zgn, ↓Zgo, ↓Zgp, ↓Zgq, ↓Zgr, ↓Zgs, ↓Zgt, ↓Zgu, ↓Zgv, ↓Zgw, ↓Zgx, ↓Zgy, ↓Zgz, ↓Zha, ↓Zhb, ↓Zhc, ↓Zhd, ↓Zhe, ↓Zhf, ↓Zhg, ↓Zhh, ↓Zhi, ↓Zhj, ↓Zhk, ↓Zhl, ↓Zhm, ↓Zhn, ↓Zho, ↓Zhp, ↓Zhq, ↓Zhr, ↓Zhs, ↓Zht, ↓Zhu, ↓Zhv, ↓Zhw, ↓Zhx, ↓Zhy, ↓Zhz, ↓Zia, ↓Zib, ↓Zic, ↓Zid, ↓Zie, ↓Zif, ↓Zig, ↓Zih, ↓Zii, ↓Zij, ↓Zik, reduceIte, if_true, if_false, Bool.false_eq_true, Bool.and_true, Bool.true_and, Bool.and_false, Bool.false_and, Bool.or_true, Bool.true_or, Bool.or_false, Bool.false_or, Int.cast_ofNat_Int, Zil, Zim, beq_self_eq_true, Int.reduceBEq, Int.reduceLT, Int.reduceLE, Int.reduceEq, Int.reduceNeg, Nat.reduceLT, Zin, Zio, Ziq, Zir, Zis, Zit, Ziu, Ziv, Ziw, Zix, Ziy, Ziz, Zja, Zjb, Zjc, Zjd, Zje, Zjf, Zjg, Zjh, Zji, Zjj, Zjk, Zjl, Zjm, Zjn, Zjo, Zjp, Zjq, Zjr, Zjs, Zjt, Zju, Zjv, Zjw, Zjx, Zjy, Zjz, Zka, Zkb, Zkc, Zkd, Zke, Zkf, Zkg, Zkh, Zki, Zkj, Zkk, Zkl, Zkm, Zkn, Zko, Zkp, List.lookup_nil, Zkq, Zkr, Option.map_some, Option.map_none, Option.bind_some, Option.bind_none, List.map_nil, List.map_cons, List.nil_append, List.cons_append, List.append_nil, List.length_cons, List.length_nil, Nat.reduceAdd, Nat.reduceLeDiff, Nat.reduceEqDiff, Nat.reduceBEq, decide_true, decide_false, Bool.not_true, Bool.not_false, Zks, Zkt, Zku, Zkv, Zkw, Zkx, Zky, Zkz, Zla, Zlb, Zlc, Zld, Zle, Zlf, List.getElem?_cons_zero, List.getElem?_cons_succ, Zlg, Zlh, Zli, Zlj, Zlk, Zll, Zlm, Zln, Zlo, Zlp, Zlq, Zlr, Zls, Zlt, Zlu, Zlv, Zlw, Zlx, Zly, setX, Zlz, Zma, Zmb, Int.ofNat_lt, Int.ofNat_le, s_gcd]
  refine iteK_dec (fun h => ?_) (fun h => ?_)
  · have q : -((Int.gcd n d : Nat) : Int) = sgc n d := by unfold sgc; rw [if_neg (by omega)]
    simp -implicitDefEqProofs -dsimp only [↓Zaa, ↓Zab, ↓Zac, ↓Zad, ↓Zae, ↓Zaf, ↓Zag, ↓Zah, ↓Zai, ↓Zaj, ↓Zak, ↓Zal, ↓Zam, ↓Zan, ↓Zao, ↓Zap, ↓Zaq, ↓Zar, ↓Zas, ↓Zat, ↓Zau, ↓Zav, ↓Zaw, ↓Zax, ↓Zay, ↓Zaz, ↓Zba, ↓Zbb, ↓Zbc, ↓Zbd, ↓Zbe, ↓Zbf, ↓Zbg, ↓Zbh, ↓Zbi, ↓Zbj, ↓Zbk, ↓Zbl, ↓Zbm, ↓Zbn, ↓Zbo, ↓Zbp, ↓Zbq, ↓Zbr, ↓Zbs, ↓Zbt, ↓Zbu, ↓Zbv, ↓Zbw, ↓Zbx, ↓Zby, ↓Zbz, ↓Zca, ↓Zcb, ↓Zcc, ↓Zcd, ↓Zce, ↓Zcf, ↓Zcg, ↓Zch, ↓Zci, ↓Zcj, ↓Zck, ↓Zcl, ↓Zcm, ↓Zcn, ↓Zco, ↓Zcp, ↓Zcq, ↓Zcr, ↓Zcs, ↓Zct, ↓Zcu, ↓Zcv, ↓Zcw, ↓Zcx, ↓Zcy, ↓Zcz, ↓Zda, ↓Zdb, ↓Zdc, ↓Zdd, ↓Zde, ↓Zdf, ↓Zdg, ↓Zdh, ↓Zdi, ↓Zdj, ↓Zdk, ↓Zdl, ↓Zdm, ↓Zdn, ↓Zdo, ↓Zdp, ↓Zdq, ↓Zdr, ↓Zds, ↓Zdt, ↓Zdu, ↓Zdv, ↓Zdw, ↓Zdx, ↓Zdy, ↓Zdz, ↓Zea, ↓Zeb, ↓Zec, ↓Zed, ↓Zee, ↓Zef, ↓Zeg, ↓Zeh, ↓Zei, ↓Zej, ↓Zek, ↓Zel, ↓Zem, ↓Zen, ↓Zeo, ↓Zep, ↓Zeq, ↓Zer, ↓Zes, ↓Zet, ↓Zeu, ↓Zev, ↓Zew, ↓Zex, ↓Zey, ↓Zez, ↓Zfa, ↓Zfb, ↓Zfc, ↓Zfd, ↓Zfe, ↓Zff, ↓Zfg, ↓Zfh, ↓Zfi, ↓Zfj, ↓Zfk, ↓Zfl, ↓Zfm, ↓Zfn, ↓Zfo, ↓Zfp, ↓Zfq, ↓Zfr, ↓Zfs, ↓Zft, ↓Zfu, ↓Zfv, ↓Zfw, ↓Zfx, ↓Zfy, ↓Zfz, ↓Zga, ↓Zgb, ↓Zgc, ↓Zgd, ↓Zge, ↓Zgf, ↓Zgg, ↓Zgh, ↓Zgi, ↓Zgj, ↓Zgk, ↓Zgl, ↓Zgm, ↓Zgn, ↓Zgo, ↓Zgp, ↓Zgq, ↓Zgr, ↓Zgs, ↓Zgt, ↓Zgu, ↓Zgv, ↓Zgw, ↓Zgx, ↓Zgy, ↓Zgz, ↓Zha, ↓Zhb, ↓Zhc, ↓Zhd, ↓Zhe, ↓Zhf, ↓Zhg, ↓Zhh, ↓Zhi, ↓Zhj, ↓Zhk, ↓Zhl, ↓Zhm, ↓Zhn, ↓Zho, ↓Zhp, ↓Zhq, ↓Zhr, ↓Zhs, ↓Zht, ↓Zhu, ↓Zhv, ↓Zhw, ↓Zhx, ↓Zhy, ↓Zhz, ↓Zia, ↓Zib, ↓Zic, ↓Zid, ↓Zie, ↓Zif, ↓Zig, ↓Zih, ↓Zii, ↓Zij, ↓Zik, reduceIte, if_true, if_false, Bool.false_eq_true, Bool.and_true, Bool.true_and, Bool.and_false, Bool.false_and, Bool.or_true, Bool.true_or, Bool.or_false, Bool.false_or, Int.cast_ofNat_Int, Zil, Zim, beq_self_eq_true, Int.reduceBEq, Int.reduceLT, Int.reduceLE, Int.reduceEq, Int.reduceNeg, Nat.reduceLT, Zin, Zio, Ziq, Zir, Zis, Zit, Ziu, Ziv, Ziw, Zix, Ziy, Ziz, Zja, Zjb, Zjc, Zjd, Zje, Zjf, Zjg, Zjh, Zji, Zjj, Zjk, Zjl, Zjm, Zjn, Zjo, Zjp, Zjq, Zjr, Zjs, Zjt, Zju, Zjv, Zjw, Zjx, Zjy, Zjz, Zka, Zkb, Zkc, Zkd, Zke, Zkf, Zkg, Zkh, Zki, Zkj, Zkk, Zkl, Zkm, Zkn, Zko, Zkp, List.lookup_nil, Zkq, Zkr, Option.map_some, Option.map_none, Option.bind_some, Option.bind_none, List.map_nil, List.map_cons, List.nil_append, List.cons_append, List.append_nil, List.length_cons, List.length_nil, Nat.reduceAdd, Nat.reduceLeDiff, Nat.reduceEqDiff, Nat.reduceBEq, decide_true, decide_false, Bool.not_true, Bool.not_false, Zks, Zkt, Zku, Zkv, Zkw, Zkx, Zky, Zkz, Zla, Zlb, Zlc, Zld, Zle, Zlf, List.getElem?_cons_zero, List.getElem?_cons_succ, Zlg, Zlh, Zli, Zlj, Zlk, Zll, Zlm, Zln, Zlo, Zlp, Zlq, Zlr, Zls, Zlt, Zlu, Zlv, Zlw, Zlx, Zly, setX, Zlz, Zma, Zmb, Int.ofNat_lt, Int.ofNat_le, q, div_ii g0, (e _ rfl).1, (e _ rfl).2]
  · have q : ((Int.gcd n d : Nat) : Int) = sgc n d := by unfold sgc; rw [if_pos (by omega)]
    simp -implicitDefEqProofs -dsimp only [↓Zaa, ↓Zab, ↓Zac, ↓Zad, ↓Zae, ↓Zaf, ↓Zag, ↓Zah, ↓Zai, ↓Zaj, ↓Zak, ↓Zal, ↓Zam, ↓Zan, ↓Zao, ↓Zap, ↓Zaq, ↓Zar, ↓Zas, ↓Zat, ↓Zau, ↓Zav, ↓Zaw, ↓Zax, ↓Zay, ↓Zaz, ↓Zba, ↓Zbb, ↓Zbc, ↓Zbd, ↓Zbe, ↓Zbf, ↓Zbg, ↓Zbh, ↓Zbi, ↓Zbj, ↓Zbk, ↓Zbl, ↓Zbm, ↓Zbn, ↓Zbo, ↓Zbp, ↓Zbq, ↓Zbr, ↓Zbs, ↓Zbt, ↓Zbu, ↓Zbv, ↓Zbw, ↓Zbx, ↓Zby, ↓Zbz, ↓Zca, ↓Zcb, ↓Zcc, ↓Zcd, ↓Zce, ↓Zcf, ↓Zcg, ↓Zch, ↓Zci, ↓Zcj, ↓Zck, ↓Zcl, ↓Zcm, ↓Zcn, ↓Zco, ↓Zcp, ↓Zcq, ↓Zcr, ↓Zcs, ↓Zct, ↓Zcu, ↓Zcv, ↓Zcw, ↓Zcx, ↓Zcy, ↓Zcz, ↓Zda, ↓Zdb, ↓Zdc, ↓Zdd, ↓Zde, ↓Zdf, ↓Zdg, ↓Zdh, ↓Zdi, ↓Zdj, ↓Zdk, ↓Zdl, ↓Zdm, ↓Zdn, ↓Zdo, ↓Zdp, ↓Zdq, ↓Zdr, ↓Zds, ↓Zdt, ↓Zdu, ↓Zdv, ↓Zdw, ↓Zdx, ↓Zdy, ↓Zdz, ↓Zea, ↓Zeb, ↓Zec, ↓Zed, ↓Zee, ↓Zef, ↓Zeg, ↓Zeh, ↓Zei, ↓Zej, ↓Zek, ↓Zel, ↓Zem, ↓Zen, ↓Zeo, ↓Zep, ↓Zeq, ↓Zer, ↓Zes, ↓Zet, ↓Zeu, ↓Zev, ↓Zew, ↓Zex, ↓Zey, ↓Zez, ↓Zfa, ↓Zfb, ↓Zfc, ↓Zfd, ↓Zfe, ↓Zff, ↓Zfg, ↓Zfh, ↓Zfi, ↓Zfj, ↓Zfk, ↓Zfl, ↓Zfm, ↓Zfn, ↓Zfo, ↓Zfp, ↓Zfq, ↓Zfr, ↓Zfs, ↓Zft, ↓Zfu, ↓Zfv, ↓Zfw, ↓Zfx, ↓Zfy, ↓Zfz, ↓Zga, ↓Zgb, ↓Zgc, ↓Zgd, ↓Zge, ↓Zgf, ↓Zgg, ↓Zgh, ↓Zgi, ↓Zgj, ↓Zgk, ↓Zgl, ↓Zgm, ↓Zgn, ↓Zgo, ↓Zgp, ↓Zgq, ↓Zgr, ↓Zgs, ↓Zgt, ↓Zgu, ↓Zgv, ↓Zgw, ↓Zgx, ↓Zgy, ↓Zgz, ↓Zha, ↓Zhb, ↓Zhc, ↓Zhd, ↓Zhe, ↓Zhf, ↓Zhg, ↓Zhh, ↓Zhi, ↓Zhj, ↓Zhk, ↓Zhl, ↓Zhm, ↓Zhn, ↓Zho, ↓Zhp, ↓Zhq, ↓Zhr, ↓Zhs, ↓Zht, ↓Zhu, ↓Zhv, ↓Zhw, ↓Zhx, ↓Zhy, ↓Zhz, ↓Zia, ↓Zib, ↓Zic, ↓Zid, ↓Zie, ↓Zif, ↓Zig, ↓Zih, ↓Zii, ↓Zij, ↓Zik, reduceIte, if_true, if_false, Bool.false_eq_true, Bool.and_true, Bool.true_and, Bool.and_false, Bool.false_and, Bool.or_true, Bool.true_or, Bool.or_false, Bool.false_or, Int.cast_ofNat_Int, Zil, Zim, beq_self_eq_true, Int.reduceBEq, Int.reduceLT, Int.reduceLE, Int.reduceEq, Int.reduceNeg, Nat.reduceLT, Zin, Zio, Ziq, Zir, Zis, Zit, Ziu, Ziv, Ziw, Zix, Ziy, Ziz, Zja, Zjb, Zjc, Zjd, Zje, Zjf, Zjg, Zjh, Zji, Zjj, Zjk, Zjl, Zjm, Zjn, Zjo, Zjp, Zjq, Zjr, Zjs, Zjt, Zju, Zjv, Zjw, Zjx, Zjy, Zjz, Zka, Zkb, Zkc, Zkd, Zke, Zkf, Zkg, Zkh, Zki, Zkj, Zkk, Zkl, Zkm, Zkn, Zko, Zkp, List.lookup_nil, Zkq, Zkr, Option.map_some, Option.map_none, Option.bind_some, Option.bind_none, List.map_nil, List.map_cons, List.nil_append, List.cons_append, List.append_nil, List.length_cons, List.length_nil, Nat.reduceAdd, Nat.reduceLeDiff, Nat.reduceEqDiff, Nat.reduceBEq, decide_true, decide_false, Bool.not_true, Bool.not_false, Zks, Zkt, Zku, Zkv, Zkw, Zkx, Zky, Zkz, Zla, Zlb, Zlc, Zld, Zle, Zlf, List.getElem?_cons_zero, List.getElem?_cons_succ, Zlg, Zlh, Zli, Zlj, Zlk, Zll, Zlm, Zln, Zlo, Zlp, Zlq, Zlr, Zls, Zlt, Zlu, Zlv, Zlw, Zlx, Zly, setX, Zlz, Zma, Zmb, Int.ofNat_lt, Int.ofNat_le, q, div_ii g0, (e _ rfl).1, (e _ rfl).2]
theorem l_add {a b : Rat} {j k : Nat} (ha : Sz j a) (hb : Sz k b) (l : j + k ≤ 50000000) : φ_law_add [.val (pD a), .val (pD b)] = .ok (.d (pD (a + b))) [] := by
  apply run_law_add
  unfold g_law_add
  simp -implicitDefEqProofs -dsimp only [↓Zaa, ↓Zab, ↓Zac, ↓Zad, ↓Zae, ↓Zaf, ↓Zag, ↓Zah, ↓Zai, ↓Zaj, ↓Zak, ↓Zal, ↓Zam, ↓Zan, ↓Zao, ↓Zap, ↓Zaq, ↓Zar, ↓Zas, ↓Zat, ↓Zau, ↓Zav, ↓Zaw, ↓Zax, ↓Zay, ↓Zaz, ↓Zba, ↓Zbb, ↓Zbc, ↓Zbd, ↓Zbe, ↓Zbf, ↓Zbg, ↓Zbh, ↓Zbi, ↓Zbj, ↓Zbk, ↓Zbl, ↓Zbm, ↓Zbn, ↓Zbo, ↓Zbp, ↓Zbq, ↓Zbr, ↓Zbs, ↓Zbt, ↓Zbu, ↓Zbv, ↓Zbw, ↓Zbx, ↓Zby, ↓Zbz, ↓Zca, ↓Zcb, ↓Zcc, ↓Zcd, ↓Zce, ↓Zcf, ↓Zcg, ↓Zch, ↓Zci, ↓Zcj, ↓Zck, ↓Zcl, ↓Zcm, ↓Zcn, ↓Zco, ↓Zcp, ↓Zcq, ↓Zcr, ↓Zcs, ↓Zct, ↓Zcu, ↓Zcv, ↓Zcw, ↓Zcx, ↓Zcy, ↓Zcz, ↓Zda, ↓Zdb, ↓Zdc, ↓Zdd, ↓Zde, ↓Zdf, ↓Zdg, ↓Zdh, ↓Zdi, ↓Zdj, ↓Zdk, ↓Zdl, ↓Zdm, ↓Zdn, ↓Zdo, ↓Zdp, ↓Zdq, ↓Zdr, ↓Zds, ↓Zdt, ↓Zdu, ↓Zdv, ↓Zdw, ↓Zdx, ↓Zdy, ↓Zdz, ↓Zea, ↓Zeb, ↓Zec, ↓Zed, ↓Zee, ↓Zef, ↓Zeg, ↓Zeh, ↓Zei, ↓Zej, ↓Zek, ↓Zel, ↓Zem, ↓Zen, ↓Zeo, ↓Zep, ↓Zeq, ↓Zer, ↓Zes, ↓Zet, ↓Zeu, ↓Zev, ↓Zew, ↓Zex, ↓Zey, ↓Zez, ↓Zfa, ↓Zfb, ↓Zfc, ↓Zfd, ↓Zfe, ↓Zff, ↓Zfg, ↓Zfh, ↓Zfi, ↓Zfj, ↓Zfk, ↓Zfl, ↓Zfm, ↓Zfn, ↓Zfo, ↓Zfp, ↓Zfq, ↓Zfr, ↓Zfs, ↓Zft, ↓Zfu, ↓Zfv, ↓Zfw, ↓Zfx, ↓Zfy, ↓Zfz, ↓Zga, ↓Zgb, ↓Zgc, ↓Zgd, ↓Zge, ↓Zgf, ↓Zgg, ↓Zgh, ↓Zgi, ↓Zgj, ↓Zgk, ↓Zgl, ↓Zgm, ↓Zgn, ↓Zgo, ↓Zgp, ↓Zgq, ↓Zgr, ↓Zgs, ↓Zgt, ↓Zgu, ↓Zgv, ↓Zgw, ↓Zgx, ↓Zgy, ↓Zgz, ↓Zha, ↓Zhb, ↓Zhc, ↓Zhd, ↓Zhe, ↓Zhf, ↓Zhg, ↓Zhh, ↓Zhi, ↓Zhj, ↓Zhk, ↓Zhl, ↓Zhm, ↓Zhn, ↓Zho, ↓Zhp, ↓Zhq, ↓Zhr, ↓Zhs, ↓Zht, ↓Zhu, ↓Zhv, ↓Zhw, ↓Zhx, ↓Zhy, ↓Zhz, ↓Zia, ↓Zib, ↓Zic, ↓Zid, ↓Zie, ↓Zif, ↓Zig, ↓Zih, ↓Zii, ↓Zij, ↓Zik, reduceIte, if_true, if_false, Bool.false_eq_true, Bool.and_true, Bool.true_and, Bool.and_false, Bool.false_and, Bool.or_true, Bool.true_or, Bool.or_false, Bool.false_or, Int.cast_ofNat_Int, Zil, Zim, beq_self_eq_true, Int.reduceBEq, Int.reduceLT, Int.reduceLE, Int.reduceEq, Int.reduceNeg, Nat.reduceLT, Zin, Zio, Ziq, Zir, Zis, Zit, Ziu, Ziv, Ziw, Zix, Ziy, Ziz, Zja, Zjb, Zjc, Zjd, Zje, Zjf, Zjg, Zjh, Zji, Zjj, Zjk, Zjl, Zjm, Zjn, Zjo, Zjp, Zjq, Zjr, Zjs, Zjt, Zju, Zjv, Zjw, Zjx, Zjy, Zjz, Zka, Zkb, Zkc, Zkd, Zke, Zkf, Zkg, Zkh, Zki, Zkj, Zkk, Zkl, Zkm, Zkn, Zko, Zkp, List.lookup_nil, Zkq, Zkr, Option.map_some, Option.map_none, Option.bind_some, Option.bind_none, List.map_nil, List.map_cons, List.nil_append, List.cons_append, List.append_nil, List.length_cons, List.length_nil, Nat.reduceAdd, Nat.reduceLeDiff, Nat.reduceEqDiff, Nat.reduceBEq, decide_true, decide_false, Bool.not_true, Bool.not_false, Zks, Zkt, Zku, Zkv, Zkw, Zkx, Zky, Zkz, Zla, Zlb, Zlc, Zld, Zle, Zlf, List.getElem?_cons_zero, List.getElem?_cons_succ, Zlg, Zlh, Zli, Zlj, Zlk, Zll, Zlm, Zln, Zlo, Zlp, Zlq, Zlr, Zls, Zlt, Zlu, Zlv, Zlw, Zlx, Zly, setX, Zlz, Zma, Zmb, Int.ofNat_lt, Int.ofNat_le, mul_ii (Bt.ok8 ha.1 hb.2 l), mul_ii (Bt.ok8 hb.1 ha.2 (by omega)), mul_ii (Bt.ok8 ha.2 hb.2 l), l_rat (dd_ne a b) (q_add a b)]
theorem l_mul {a b : Rat} {j k : Nat} (ha : Sz j a) (hb : Sz k b) (l : j + k ≤ 50000000) : φ_law_mul [.val (pD a), .val (pD b)] = .ok (.d (pD (a * b))) [] := by
  apply run_law_mul
  unfold g_law_mul
  simp -implicitDefEqProofs -dsimp only [↓Zaa, ↓Zab, ↓Zac, ↓Zad, ↓Zae, ↓Zaf, ↓Zag, ↓Zah, ↓Zai, ↓Zaj, ↓Zak, ↓Zal, ↓Zam, ↓Zan, ↓Zao, ↓Zap, ↓Zaq, ↓Zar, ↓Zas, ↓Zat, ↓Zau, ↓Zav, ↓Zaw, ↓Zax, ↓Zay, ↓Zaz, ↓Zba, ↓Zbb, ↓Zbc, ↓Zbd, ↓Zbe, ↓Zbf, ↓Zbg, ↓Zbh, ↓Zbi, ↓Zbj, ↓Zbk, ↓Zbl, ↓Zbm, ↓Zbn, ↓Zbo, ↓Zbp, ↓Zbq, ↓Zbr, ↓Zbs, ↓Zbt, ↓Zbu, ↓Zbv, ↓Zbw, ↓Zbx, ↓Zby, ↓Zbz, ↓Zca, ↓Zcb, ↓Zcc, ↓Zcd, ↓Zce, ↓Zcf, ↓Zcg, ↓Zch, ↓Zci, ↓Zcj, ↓Zck, ↓Zcl, ↓Zcm, ↓Zcn, ↓Zco, ↓Zcp, ↓Zcq, ↓Zcr, ↓Zcs, ↓Zct, ↓Zcu, ↓Zcv, ↓Zcw, ↓Zcx, ↓Zcy, ↓Zcz, ↓Zda, ↓Zdb, ↓Zdc, ↓Zdd, ↓Zde, ↓Zdf, ↓Zdg, ↓Zdh, ↓Zdi, ↓Zdj, ↓Zdk, ↓Zdl, ↓Zdm, ↓Zdn, ↓Zdo, ↓Zdp, ↓Zdq, ↓Zdr, ↓Zds, ↓Zdt, ↓Zdu, ↓Zdv, ↓Zdw, ↓Zdx, ↓Zdy, ↓Zdz, ↓Zea, ↓Zeb, ↓Zec, ↓Zed, ↓Zee, ↓Zef, ↓Zeg, ↓Zeh, ↓Zei, ↓Zej, ↓Zek, ↓Zel, ↓Zem, ↓Zen, ↓Zeo, ↓Zep, ↓Zeq, ↓Zer, ↓Zes, ↓Zet, ↓Zeu, ↓Zev, ↓Zew, ↓Zex, ↓Zey, ↓Zez, ↓Zfa, ↓Zfb, ↓Zfc, ↓Zfd, ↓Zfe, ↓Zff, ↓Zfg, ↓Zfh, ↓Zfi, ↓Zfj, ↓Zfk, ↓Zfl, ↓Zfm, ↓Zfn, ↓Zfo, ↓Zfp, ↓Zfq, ↓Zfr, ↓Zfs, ↓Zft, ↓Zfu, ↓Zfv, ↓Zfw, ↓Zfx, ↓Zfy, ↓Zfz, ↓Zga, ↓Zgb, ↓Zgc, ↓Zgd, ↓Zge, ↓Zgf, ↓Zgg, ↓Zgh, ↓Zgi, ↓Zgj, ↓Zgk, ↓Zgl, ↓Zgm, ↓Zgn, ↓Zgo, ↓Zgp, ↓Zgq, ↓Zgr, ↓Zgs, ↓Zgt, ↓Zgu, ↓Zgv, ↓Zgw, ↓Zgx, ↓Zgy, ↓Zgz, ↓Zha, ↓Zhb, ↓Zhc, ↓Zhd, ↓Zhe, ↓Zhf, ↓Zhg, ↓Zhh, ↓Zhi, ↓Zhj, ↓Zhk, ↓Zhl, ↓Zhm, ↓Zhn, ↓Zho, ↓Zhp, ↓Zhq, ↓Zhr, ↓Zhs, ↓Zht, ↓Zhu, ↓Zhv, ↓Zhw, ↓Zhx, ↓Zhy, ↓Zhz, ↓Zia, ↓Zib, ↓Zic, ↓Zid, ↓Zie, ↓Zif, ↓Zig, ↓Zih, ↓Zii, ↓Zij, ↓Zik, reduceIte, if_true, if_false, Bool.false_eq_true, Bool.and_true, Bool.true_and, Bool.and_false, Bool.false_and, Bool.or_true, Bool.true_or, Bool.or_false, Bool.false_or, Int.cast_ofNat_Int, Zil, Zim, beq_self_eq_true, Int.reduceBEq, Int.reduceLT, Int.reduceLE, Int.reduceEq, Int.reduceNeg, Nat.reduceLT, Zin, Zio, Ziq, Zir, Zis, Zit, Ziu, Ziv, Ziw, Zix, Ziy, Ziz, Zja, Zjb, Zjc, Zjd, Zje, Zjf, Zjg, Zjh, Zji, Zjj, Zjk, Zjl, Zjm, Zjn, Zjo, Zjp, Zjq, Zjr, Zjs, Zjt, Zju, Zjv, Zjw, Zjx, Zjy, Zjz, Zka, Zkb, Zkc, Zkd, Zke, Zkf, Zkg, Zkh, Zki, Zkj, Zkk, Zkl, Zkm, Zkn, Zko, Zkp, List.lookup_nil, Zkq, Zkr, Option.map_some, Option.map_none, Option.bind_some, Option.bind_none, List.map_nil, List.map_cons, List.nil_append, List.cons_append, List.append_nil, List.length_cons, List.length_nil, Nat.reduceAdd, Nat.reduceLeDiff, Nat.reduceEqDiff, Nat.reduceBEq, decide_true, decide_false, Bool.not_true, Bool.not_false, Zks, Zkt, Zku, Zkv, Zkw, Zkx, Zky, Zkz, Zla, Zlb, Zlc, Zld, Zle, Zlf, List.getElem?_cons_zero, List.getElem?_cons_succ, Zlg, Zlh, Zli, Zlj, Zlk, Zll, Zlm, Zln, Zlo, Zlp, Zlq, Zlr, Zls, Zlt, Zlu, Zlv, Zlw, Zlx, Zly, setX, Zlz, Zma, Zmb, Int.ofNat_lt, Int.ofNat_le, mul_ii (Bt.ok8 ha.1 hb.1 l), mul_ii (Bt.ok8 ha.2 hb.2 l), l_rat (dd_ne a b) (q_mul a b)]
theorem l_pair {a : Rat} : φ_law_pair [.val (rD a)] = .ok (.d (pD a)) [] := s_pair (den_pos' a) (num_gcd a)
theorem l_small {n d : Int} : ∃ q : Rat, Sz 20 q ∧ φ_law_small [.val (.int n), .val (.int d)] = .ok (.d (pD q)) [] := by
  have h0 : d % 5 + 1 ≠ 0 := by omega
  refine ⟨Rat.divInt (n % 19 - 9) (d % 5 + 1), .div h0 (Bt.s20 (by omega) (by omega)) (Bt.s20 (by omega) (by omega)), ?_⟩
  apply run_law_small
  unfold g_law_small
  simp -implicitDefEqProofs -dsimp only [↓Zaa, ↓Zab, ↓Zac, ↓Zad, ↓Zae, ↓Zaf, ↓Zag, ↓Zah, ↓Zai, ↓Zaj, ↓Zak, ↓Zal, ↓Zam, ↓Zan, ↓Zao, ↓Zap, ↓Zaq, ↓Zar, ↓Zas, ↓Zat, ↓Zau, ↓Zav, ↓Zaw, ↓Zax, ↓Zay, ↓Zaz, ↓Zba, ↓Zbb, ↓Zbc, ↓Zbd, ↓Zbe, ↓Zbf, ↓Zbg, ↓Zbh, ↓Zbi, ↓Zbj, ↓Zbk, ↓Zbl, ↓Zbm, ↓Zbn, ↓Zbo, ↓Zbp, ↓Zbq, ↓Zbr, ↓Zbs, ↓Zbt, ↓Zbu, ↓Zbv, ↓Zbw, ↓Zbx, ↓Zby, ↓Zbz, ↓Zca, ↓Zcb, ↓Zcc, ↓Zcd, ↓Zce, ↓Zcf, ↓Zcg, ↓Zch, ↓Zci, ↓Zcj, ↓Zck, ↓Zcl, ↓Zcm, ↓Zcn, ↓Zco, ↓Zcp, ↓Zcq, ↓Zcr, ↓Zcs, ↓Zct, ↓Zcu, ↓Zcv, ↓Zcw, ↓Zcx, ↓Zcy, ↓Zcz, ↓Zda, ↓Zdb, ↓Zdc, ↓Zdd, ↓Zde, ↓Zdf, ↓Zdg, ↓Zdh, ↓Zdi, ↓Zdj, ↓Zdk, ↓Zdl, ↓Zdm, ↓Zdn, ↓Zdo, ↓Zdp, ↓Zdq, ↓Zdr, ↓Zds, ↓Zdt, ↓Zdu, ↓Zdv, ↓Zdw, ↓Zdx, ↓Zdy, ↓Zdz, ↓Zea, ↓Zeb, ↓Zec, ↓Zed, ↓Zee, ↓Zef, ↓Zeg, ↓Zeh, ↓Zei, ↓Zej, ↓Zek, ↓Zel, ↓Zem, ↓Zen, ↓Zeo, ↓Zep, ↓Zeq, ↓Zer, ↓Zes, ↓Zet, ↓Zeu, ↓Zev, ↓Zew, ↓Zex, ↓Zey, ↓Zez, ↓Zfa, ↓Zfb, ↓Zfc, ↓Zfd, ↓Zfe, ↓Zff, ↓Zfg, ↓Zfh, ↓Zfi, ↓Zfj, ↓Zfk, ↓Zfl, ↓Zfm, ↓Zfn, ↓Zfo, ↓Zfp, ↓Zfq, ↓Zfr, ↓Zfs, ↓Zft, ↓Zfu, ↓Zfv, ↓Zfw, ↓Zfx, ↓Zfy, ↓Zfz, ↓Zga, ↓Zgb, ↓Zgc, ↓Zgd, ↓Zge, ↓Zgf, ↓Zgg, ↓Zgh, ↓Zgi, ↓Zgj, ↓Zgk, ↓Zgl, ↓Zgm, ↓Zgn, ↓Zgo, ↓Zgp, ↓Zgq, ↓Zgr, ↓Zgs, ↓Zgt, ↓Zgu, ↓Zgv, ↓Zgw, ↓Zgx, ↓Zgy, ↓Zgz, ↓Zha, ↓Zhb, ↓Zhc, ↓Zhd, ↓Zhe, ↓Zhf, ↓Zhg, ↓Zhh, ↓Zhi, ↓Zhj, ↓Zhk, ↓Zhl, ↓Zhm, ↓Zhn, ↓Zho, ↓Zhp, ↓Zhq, ↓Zhr, ↓Zhs, ↓Zht, ↓Zhu, ↓Zhv, ↓Zhw, ↓Zhx, ↓Zhy, ↓Zhz, ↓Zia, ↓Zib, ↓Zic, ↓Zid, ↓Zie, ↓Zif, ↓Zig, ↓Zih, ↓Zii, ↓Zij, ↓Zik, reduceIte, if_true, if_false, Bool.false_eq_true, Bool.and_true, Bool.true_and, Bool.and_false, Bool.false_and, Bool.or_true, Bool.true_or, Bool.or_false, Bool.false_or, Int.cast_ofNat_Int, Zil, Zim, beq_self_eq_true, Int.reduceBEq, Int.reduceLT, Int.reduceLE, Int.reduceEq, Int.reduceNeg, Nat.reduceLT, Zin, Zio, Ziq, Zir, Zis, Zit, Ziu, Ziv, Ziw, Zix, Ziy, Ziz, Zja, Zjb, Zjc, Zjd, Zje, Zjf, Zjg, Zjh, Zji, Zjj, Zjk, Zjl, Zjm, Zjn, Zjo, Zjp, Zjq, Zjr, Zjs, Zjt, Zju, Zjv, Zjw, Zjx, Zjy, Zjz, Zka, Zkb, Zkc, Zkd, Zke, Zkf, Zkg, Zkh, Zki, Zkj, Zkk, Zkl, Zkm, Zkn, Zko, Zkp, List.lookup_nil, Zkq, Zkr, Option.map_some, Option.map_none, Option.bind_some, Option.bind_none, List.map_nil, List.map_cons, List.nil_append, List.cons_append, List.append_nil, List.length_cons, List.length_nil, Nat.reduceAdd, Nat.reduceLeDiff, Nat.reduceEqDiff, Nat.reduceBEq, decide_true, decide_false, Bool.not_true, Bool.not_false, Zks, Zkt, Zku, Zkv, Zkw, Zkx, Zky, Zkz, Zla, Zlb, Zlc, Zld, Zle, Zlf, List.getElem?_cons_zero, List.getElem?_cons_succ, Zlg, Zlh, Zli, Zlj, Zlk, Zll, Zlm, Zln, Zlo, Zlp, Zlq, Zlr, Zls, Zlt, Zlu, Zlv, Zlw, Zlx, Zly, setX, Zlz, Zma, Zmb, Int.ofNat_lt, Int.ofNat_le, mod_ii (show (0 : Int) < 19 by decide), mod_ii (show (0 : Int) < 5 by decide), l_rat h0 rfl]
theorem l_pairs {w : Nat} {v : Nat → Rat} (hw : w ≤ 1000) : φ_law_pairs [.val (.tup (vec w fun i => rD (v i))), .val (.int w)] = .ok (.d (.tup (vec w fun i => pD (v i)))) [] := by
  apply run_law_pairs
  unfold g_law_pairs
  have e0 : ((w : Int) == (w : Int)) = true := by simp
  simp -implicitDefEqProofs -dsimp only [↓Zaa, ↓Zab, ↓Zac, ↓Zad, ↓Zae, ↓Zaf, ↓Zag, ↓Zah, ↓Zai, ↓Zaj, ↓Zak, ↓Zal, ↓Zam, ↓Zan, ↓Zao, ↓Zap, ↓Zaq, ↓Zar, ↓Zas, ↓Zat, ↓Zau, ↓Zav, ↓Zaw, ↓Zax, ↓Zay, ↓Zaz, ↓Zba, ↓Zbb, ↓Zbc, ↓Zbd, ↓Zbe, ↓Zbf, ↓Zbg, ↓Zbh, ↓Zbi, ↓Zbj, ↓Zbk, ↓Zbl, ↓Zbm, ↓Zbn, ↓Zbo, ↓Zbp, ↓Zbq, ↓Zbr, ↓Zbs, ↓Zbt, ↓Zbu, ↓Zbv, ↓Zbw, ↓Zbx, ↓Zby, ↓Zbz, ↓Zca, ↓Zcb, ↓Zcc, ↓Zcd, ↓Zce, ↓Zcf, ↓Zcg, ↓Zch, ↓Zci, ↓Zcj, ↓Zck, ↓Zcl, ↓Zcm, ↓Zcn, ↓Zco, ↓Zcp, ↓Zcq, ↓Zcr, ↓Zcs, ↓Zct, ↓Zcu, ↓Zcv, ↓Zcw, ↓Zcx, ↓Zcy, ↓Zcz, ↓Zda, ↓Zdb, ↓Zdc, ↓Zdd, ↓Zde, ↓Zdf, ↓Zdg, ↓Zdh, ↓Zdi, ↓Zdj, ↓Zdk, ↓Zdl, ↓Zdm, ↓Zdn, ↓Zdo, ↓Zdp, ↓Zdq, ↓Zdr, ↓Zds, ↓Zdt, ↓Zdu, ↓Zdv, ↓Zdw, ↓Zdx, ↓Zdy, ↓Zdz, ↓Zea, ↓Zeb, ↓Zec, ↓Zed, ↓Zee, ↓Zef, ↓Zeg, ↓Zeh, ↓Zei, ↓Zej, ↓Zek, ↓Zel, ↓Zem, ↓Zen, ↓Zeo, ↓Zep, ↓Zeq, ↓Zer, ↓Zes, ↓Zet, ↓Zeu, ↓Zev, ↓Zew, ↓Zex, ↓Zey, ↓Zez, ↓Zfa, ↓Zfb, ↓Zfc, ↓Zfd, ↓Zfe, ↓Zff, ↓Zfg, ↓Zfh, ↓Zfi, ↓Zfj, ↓Zfk, ↓Zfl, ↓Zfm, ↓Zfn, ↓Zfo, ↓Zfp, ↓Zfq, ↓Zfr, ↓Zfs, ↓Zft, ↓Zfu, ↓Zfv, ↓Zfw, ↓Zfx, ↓Zfy, ↓Zfz, ↓Zga, ↓Zgb, ↓Zgc, ↓Zgd, ↓Zge, ↓Zgf, ↓Zgg, ↓Zgh, ↓Zgi, ↓Zgj, ↓Zgk, ↓Zgl, ↓Zgm, ↓Zgn, ↓Zgo, ↓Zgp, ↓Zgq, ↓Zgr, ↓Zgs, ↓Zgt, ↓Zgu, ↓Zgv, ↓Zgw, ↓Zgx, ↓Zgy, ↓Zgz, ↓Zha, ↓Zhb, ↓Zhc, ↓Zhd, ↓Zhe, ↓Zhf, ↓Zhg, ↓Zhh, ↓Zhi, ↓Zhj, ↓Zhk, ↓Zhl, ↓Zhm, ↓Zhn, ↓Zho, ↓Zhp, ↓Zhq, ↓Zhr, ↓Zhs, ↓Zht, ↓Zhu, ↓Zhv, ↓Zhw, ↓Zhx, ↓Zhy, ↓Zhz, ↓Zia, ↓Zib, ↓Zic, ↓Zid, ↓Zie, ↓Zif, ↓Zig, ↓Zih, ↓Zii, ↓Zij, ↓Zik, reduceIte, if_true, if_false, Bool.false_eq_true, Bool.and_true, Bool.true_and, Bool.and_false, Bool.false_and, Bool.or_true, Bool.true_or, Bool.or_false, Bool.false_or, Int.cast_ofNat_Int, Zil, Zim, beq_self_eq_true, Int.reduceBEq, Int.reduceLT, Int.reduceLE, Int.reduceEq, Int.reduceNeg, Nat.reduceLT, Zin, Zio, Ziq, Zir, Zis, Zit, Ziu, Ziv, Ziw, Zix, Ziy, Ziz, Zja, Zjb, Zjc, Zjd, Zje, Zjf, Zjg, Zjh, Zji, Zjj, Zjk, Zjl, Zjm, Zjn, Zjo, Zjp, Zjq, Zjr, Zjs, Zjt, Zju, Zjv, Zjw, Zjx, Zjy, Zjz, Zka, Zkb, Zkc, Zkd, Zke, Zkf, Zkg, Zkh, Zki, Zkj, Zkk, Zkl, Zkm, Zkn, Zko, Zkp, List.lookup_nil, Zkq, Zkr, Option.map_some, Option.map_none, Option.bind_some, Option.bind_none, List.map_nil, List.map_cons, List.nil_append, List.cons_append, List.append_nil, List.length_cons, List.length_nil, Nat.reduceAdd, Nat.reduceLeDiff, Nat.reduceEqDiff, Nat.reduceBEq, decide_true, decide_false, Bool.not_true, Bool.not_false, Zks, Zkt, Zku, Zkv, Zkw, Zkx, Zky, Zkz, Zla, Zlb, Zlc, Zld, Zle, Zlf, List.getElem?_cons_zero, List.getElem?_cons_succ, Zlg, Zlh, Zli, Zlj, Zlk, Zll, Zlm, Zln, Zlo, Zlp, Zlq, Zlr, Zls, Zlt, Zlu, Zlv, Zlw, Zlx, Zly, setX, Zlz, Zma, Zmb, Int.ofNat_lt, Int.ofNat_le, vec_len, e0]
  refine lc_vec (fun i => pD (v i)) rfl (by simp only [wipeE, List.set_cons_zero, List.set_cons_succ]; rfl) (by omega) (fun i hi => ?_) ?_
  · simp -implicitDefEqProofs -dsimp only [↓Zaa, ↓Zab, ↓Zac, ↓Zad, ↓Zae, ↓Zaf, ↓Zag, ↓Zah, ↓Zai, ↓Zaj, ↓Zak, ↓Zal, ↓Zam, ↓Zan, ↓Zao, ↓Zap, ↓Zaq, ↓Zar, ↓Zas, ↓Zat, ↓Zau, ↓Zav, ↓Zaw, ↓Zax, ↓Zay, ↓Zaz, ↓Zba, ↓Zbb, ↓Zbc, ↓Zbd, ↓Zbe, ↓Zbf, ↓Zbg, ↓Zbh, ↓Zbi, ↓Zbj, ↓Zbk, ↓Zbl, ↓Zbm, ↓Zbn, ↓Zbo, ↓Zbp, ↓Zbq, ↓Zbr, ↓Zbs, ↓Zbt, ↓Zbu, ↓Zbv, ↓Zbw, ↓Zbx, ↓Zby, ↓Zbz, ↓Zca, ↓Zcb, ↓Zcc, ↓Zcd, ↓Zce, ↓Zcf, ↓Zcg, ↓Zch, ↓Zci, ↓Zcj, ↓Zck, ↓Zcl, ↓Zcm, ↓Zcn, ↓Zco, ↓Zcp, ↓Zcq, ↓Zcr, ↓Zcs, ↓Zct, ↓Zcu, ↓Zcv, ↓Zcw, ↓Zcx, ↓Zcy, ↓Zcz, ↓Zda, ↓Zdb, ↓Zdc, ↓Zdd, ↓Zde, ↓Zdf, ↓Zdg, ↓Zdh, ↓Zdi, ↓Zdj, ↓Zdk, ↓Zdl, ↓Zdm, ↓Zdn, ↓Zdo, ↓Zdp, ↓Zdq, ↓Zdr, ↓Zds, ↓Zdt, ↓Zdu, ↓Zdv, ↓Zdw, ↓Zdx, ↓Zdy, ↓Zdz, ↓Zea, ↓Zeb, ↓Zec, ↓Zed, ↓Zee, ↓Zef, ↓Zeg, ↓Zeh, ↓Zei, ↓Zej, ↓Zek, ↓Zel, ↓Zem, ↓Zen, ↓Zeo, ↓Zep, ↓Zeq, ↓Zer, ↓Zes, ↓Zet, ↓Zeu, ↓Zev, ↓Zew, ↓Zex, ↓Zey, ↓Zez, ↓Zfa, ↓Zfb, ↓Zfc, ↓Zfd, ↓Zfe, ↓Zff, ↓Zfg, ↓Zfh, ↓Zfi, ↓Zfj, ↓Zfk, ↓Zfl, ↓Zfm, ↓Zfn, ↓Zfo, ↓Zfp, ↓Zfq, ↓Zfr, ↓Zfs, ↓Zft, ↓Zfu, ↓Zfv, ↓Zfw, ↓Zfx, ↓Zfy, ↓Zfz, ↓Zga, ↓Zgb, ↓Zgc, ↓Zgd, ↓Zge, ↓Zgf, ↓Zgg, ↓Zgh, ↓Zgi, ↓Zgj, ↓Zgk, ↓Zgl, ↓Zgm, ↓Zgn, ↓Zgo, ↓Zgp, ↓Zgq, ↓Zgr, ↓Zgs, ↓Zgt, ↓Zgu, ↓Zgv, ↓Zgw, ↓Zgx, ↓Zgy, ↓Zgz, ↓Zha, ↓Zhb, ↓Zhc, ↓Zhd, ↓Zhe, ↓Zhf, ↓Zhg, ↓Zhh, ↓Zhi, ↓Zhj, ↓Zhk, ↓Zhl, ↓Zhm, ↓Zhn, ↓Zho, ↓Zhp, ↓Zhq, ↓Zhr, ↓Zhs, ↓Zht, ↓Zhu, ↓Zhv, ↓Zhw, ↓Zhx, ↓Zhy, ↓Zhz, ↓Zia, ↓Zib, ↓Zic, ↓Zid, ↓Zie, ↓Zif, ↓Zig, ↓Zih, ↓Zii, ↓Zij, ↓Zik, reduceIte, if_true, if_false, Bool.false_eq_true, Bool.and_true, Bool.true_and, Bool.and_false, Bool.false_and, Bool.or_true, Bool.true_or, Bool.or_false, Bool.false_or, Int.cast_ofNat_Int, Zil, Zim, beq_self_eq_true, Int.reduceBEq, Int.reduceLT, Int.reduceLE, Int.reduceEq, Int.reduceNeg, Nat.reduceLT, Zin, Zio, Ziq, Zir, Zis, Zit, Ziu, Ziv, Ziw, Zix, Ziy, Ziz, Zja, Zjb, Zjc, Zjd, Zje, Zjf, Zjg, Zjh, Zji, Zjj, Zjk, Zjl, Zjm, Zjn, Zjo, Zjp, Zjq, Zjr, Zjs, Zjt, Zju, Zjv, Zjw, Zjx, Zjy, Zjz, Zka, Zkb, Zkc, Zkd, Zke, Zkf, Zkg, Zkh, Zki, Zkj, Zkk, Zkl, Zkm, Zkn, Zko, Zkp, List.lookup_nil, Zkq, Zkr, Option.map_some, Option.map_none, Option.bind_some, Option.bind_none, List.map_nil, List.map_cons, List.nil_append, List.cons_append, List.append_nil, List.length_cons, List.length_nil, Nat.reduceAdd, Nat.reduceLeDiff, Nat.reduceEqDiff, Nat.reduceBEq, decide_true, decide_false, Bool.not_true, Bool.not_false, Zks, Zkt, Zku, Zkv, Zkw, Zkx, Zky, Zkz, Zla, Zlb, Zlc, Zld, Zle, Zlf, List.getElem?_cons_zero, List.getElem?_cons_succ, Zlg, Zlh, Zli, Zlj, Zlk, Zll, Zlm, Zln, Zlo, Zlp, Zlq, Zlr, Zls, Zlt, Zlu, Zlv, Zlw, Zlx, Zly, setX, Zlz, Zma, Zmb, Int.ofNat_lt, Int.ofNat_le, l_pair]
    exact ⟨rfl, rfl, trivial⟩
  · have e1 : pIn .non (.lst (vec w fun i => pD (v i))) = some (.d (.bl false)) := none_in (fun d hd => by obtain ⟨i, _, rfl⟩ := List.mem_map.mp hd; exact ⟨_, _, rfl⟩)
    simp -implicitDefEqProofs -dsimp only [↓Zaa, ↓Zab, ↓Zac, ↓Zad, ↓Zae, ↓Zaf, ↓Zag, ↓Zah, ↓Zai, ↓Zaj, ↓Zak, ↓Zal, ↓Zam, ↓Zan, ↓Zao, ↓Zap, ↓Zaq, ↓Zar, ↓Zas, ↓Zat, ↓Zau, ↓Zav, ↓Zaw, ↓Zax, ↓Zay, ↓Zaz, ↓Zba, ↓Zbb, ↓Zbc, ↓Zbd, ↓Zbe, ↓Zbf, ↓Zbg, ↓Zbh, ↓Zbi, ↓Zbj, ↓Zbk, ↓Zbl, ↓Zbm, ↓Zbn, ↓Zbo, ↓Zbp, ↓Zbq, ↓Zbr, ↓Zbs, ↓Zbt, ↓Zbu, ↓Zbv, ↓Zbw, ↓Zbx, ↓Zby, ↓Zbz, ↓Zca, ↓Zcb, ↓Zcc, ↓Zcd, ↓Zce, ↓Zcf, ↓Zcg, ↓Zch, ↓Zci, ↓Zcj, ↓Zck, ↓Zcl, ↓Zcm, ↓Zcn, ↓Zco, ↓Zcp, ↓Zcq, ↓Zcr, ↓Zcs, ↓Zct, ↓Zcu, ↓Zcv, ↓Zcw, ↓Zcx, ↓Zcy, ↓Zcz, ↓Zda, ↓Zdb, ↓Zdc, ↓Zdd, ↓Zde, ↓Zdf, ↓Zdg, ↓Zdh, ↓Zdi, ↓Zdj, ↓Zdk, ↓Zdl, ↓Zdm, ↓Zdn, ↓Zdo, ↓Zdp, ↓Zdq, ↓Zdr, ↓Zds, ↓Zdt, ↓Zdu, ↓Zdv, ↓Zdw, ↓Zdx, ↓Zdy, ↓Zdz, ↓Zea, ↓Zeb, ↓Zec, ↓Zed, ↓Zee, ↓Zef, ↓Zeg, ↓Zeh, ↓Zei, ↓Zej, ↓Zek, ↓Zel, ↓Zem, ↓Zen, ↓Zeo, ↓Zep, ↓Zeq, ↓Zer, ↓Zes, ↓Zet, ↓Zeu, ↓Zev, ↓Zew, ↓Zex, ↓Zey, ↓Zez, ↓Zfa, ↓Zfb, ↓Zfc, ↓Zfd, ↓Zfe, ↓Zff, ↓Zfg, ↓Zfh, ↓Zfi, ↓Zfj, ↓Zfk, ↓Zfl, ↓Zfm, ↓Zfn, ↓Zfo, ↓Zfp, ↓Zfq, ↓Zfr, ↓Zfs, ↓Zft, ↓Zfu, ↓Zfv, ↓Zfw, ↓Zfx, ↓Zfy, ↓Zfz, ↓Zga, ↓Zgb, ↓Zgc, ↓Zgd, ↓Zge, ↓Zgf, ↓Zgg, ↓Zgh, ↓Zgi, ↓Zgj, ↓Zgk, ↓Zgl, ↓Zgm, ↓Zgn, ↓Zgo, ↓Zgp, ↓Zgq, ↓Zgr, ↓Zgs, ↓Zgt, ↓Zgu, ↓Zgv, ↓Zgw, ↓Zgx, ↓Zgy, ↓Zgz, ↓Zha, ↓Zhb, ↓Zhc, ↓Zhd, ↓Zhe, ↓Zhf, ↓Zhg, ↓Zhh, ↓Zhi, ↓Zhj, ↓Zhk, ↓Zhl, ↓Zhm, ↓Zhn, ↓Zho, ↓Zhp, ↓Zhq, ↓Zhr, ↓Zhs, ↓Zht, ↓Zhu, ↓Zhv, ↓Zhw, ↓Zhx, ↓Zhy, ↓Zhz, ↓Zia, ↓Zib, ↓Zic, ↓Zid, ↓Zie, ↓Zif, ↓Zig, ↓Zih, ↓Zii, ↓Zij, ↓Zik, reduceIte, if_true, if_false, Bool.false_eq_true, Bool.and_true, Bool.true_and, Bool.and_false, Bool.false_and, Bool.or_true, Bool.true_or, Bool.or_false, Bool.false_or, Int.cast_ofNat_Int, Zil, Zim, beq_self_eq_true, Int.reduceBEq, Int.reduceLT, Int.reduceLE, Int.reduceEq, Int.reduceNeg, Nat.reduceLT, Zin, Zio, Ziq, Zir, Zis, Zit, Ziu, Ziv, Ziw, Zix, Ziy, Ziz, Zja, Zjb, Zjc, Zjd, Zje, Zjf, Zjg, Zjh, Zji, Zjj, Zjk, Zjl, Zjm, Zjn, Zjo, Zjp, Zjq, Zjr, Zjs, Zjt, Zju, Zjv, Zjw, Zjx, Zjy, Zjz, Zka, Zkb, Zkc, Zkd, Zke, Zkf, Zkg, Zkh, Zki, Zkj, Zkk, Zkl, Zkm, Zkn, Zko, Zkp, List.lookup_nil, Zkq, Zkr, Option.map_some, Option.map_none, Option.bind_some, Option.bind_none, List.map_nil, List.map_cons, List.nil_append, List.cons_append, List.append_nil, List.length_cons, List.length_nil, Nat.reduceAdd, Nat.reduceLeDiff, Nat.reduceEqDiff, Nat.reduceBEq, decide_true, decide_false, Bool.not_true, Bool.not_false, Zks, Zkt, Zku, Zkv, Zkw, Zkx, Zky, Zkz, Zla, Zlb, Zlc, Zld, Zle, Zlf, List.getElem?_cons_zero, List.getElem?_cons_succ, Zlg, Zlh, Zli, Zlj, Zlk, Zll, Zlm, Zln, Zlo, Zlp, Zlq, Zlr, Zls, Zlt, Zlu, Zlv, Zlw, Zlx, Zly, setX, Zlz, Zma, Zmb, Int.ofNat_lt, Int.ofNat_le, e1]
theorem l_ratios {w : Nat} {v : Nat → Rat} (hw : w ≤ 1000) : φ_law_ratios [.val (.tup (vec w fun i => pD (v i)))] = .ok (.d (.tup (vec w fun i => rD (v i)))) [] := by
  apply run_law_ratios
  unfold g_law_ratios
  simp -implicitDefEqProofs -dsimp only [↓Zaa, ↓Zab, ↓Zac, ↓Zad, ↓Zae, ↓Zaf, ↓Zag, ↓Zah, ↓Zai, ↓Zaj, ↓Zak, ↓Zal, ↓Zam, ↓Zan, ↓Zao, ↓Zap, ↓Zaq, ↓Zar, ↓Zas, ↓Zat, ↓Zau, ↓Zav, ↓Zaw, ↓Zax, ↓Zay, ↓Zaz, ↓Zba, ↓Zbb, ↓Zbc, ↓Zbd, ↓Zbe, ↓Zbf, ↓Zbg, ↓Zbh, ↓Zbi, ↓Zbj, ↓Zbk, ↓Zbl, ↓Zbm, ↓Zbn, ↓Zbo, ↓Zbp, ↓Zbq, ↓Zbr, ↓Zbs, ↓Zbt, ↓Zbu, ↓Zbv, ↓Zbw, ↓Zbx, ↓Zby, ↓Zbz, ↓Zca, ↓Zcb, ↓Zcc, ↓Zcd, ↓Zce, ↓Zcf, ↓Zcg, ↓Zch, ↓Zci, ↓Zcj, ↓Zck, ↓Zcl, ↓Zcm, ↓Zcn, ↓Zco, ↓Zcp, ↓Zcq, ↓Zcr, ↓Zcs, ↓Zct, ↓Zcu, ↓Zcv, ↓Zcw, ↓Zcx, ↓Zcy, ↓Zcz, ↓Zda, ↓Zdb, ↓Zdc, ↓Zdd, ↓Zde, ↓Zdf, ↓Zdg, ↓Zdh, ↓Zdi, ↓Zdj, ↓Zdk, ↓Zdl, ↓Zdm, ↓Zdn, ↓Zdo, ↓Zdp, ↓Zdq, ↓Zdr, ↓Zds, ↓Zdt, ↓Zdu, ↓Zdv, ↓Zdw, ↓Zdx, ↓Zdy, ↓Zdz, ↓Zea, ↓Zeb, ↓Zec, ↓Zed, ↓Zee, ↓Zef, ↓Zeg, ↓Zeh, ↓Zei, ↓Zej, ↓Zek, ↓Zel, ↓Zem, ↓Zen, ↓Zeo, ↓Zep, ↓Zeq, ↓Zer, ↓Zes, ↓Zet, ↓Zeu, ↓Zev, ↓Zew, ↓Zex, ↓Zey, ↓Zez, ↓Zfa, ↓Zfb, ↓Zfc, ↓Zfd, ↓Zfe, ↓Zff, ↓Zfg, ↓Zfh, ↓Zfi, ↓Zfj, ↓Zfk, ↓Zfl, ↓Zfm, ↓Zfn, ↓Zfo, ↓Zfp, ↓Zfq, ↓Zfr, ↓Zfs, ↓Zft, ↓Zfu, ↓Zfv, ↓Zfw, ↓Zfx, ↓Zfy, ↓Zfz, ↓Zga, ↓Zgb, ↓Zgc, ↓Zgd, ↓Zge, ↓Zgf, ↓Zgg, ↓Zgh, ↓Zgi, ↓Zgj, ↓Zgk, ↓Zgl, ↓Zgm, ↓Zgn, ↓Zgo, ↓Zgp, ↓Zgq, ↓Zgr, ↓Zgs, ↓Zgt, ↓Zgu, ↓Zgv, ↓Zgw, ↓Zgx, ↓Zgy, ↓Zgz, ↓Zha, ↓Zhb, ↓Zhc, ↓Zhd, ↓Zhe, ↓Zhf, ↓Zhg, ↓Zhh, ↓Zhi, ↓Zhj, ↓Zhk, ↓Zhl, ↓Zhm, ↓Zhn, ↓Zho, ↓Zhp, ↓Zhq, ↓Zhr, ↓Zhs, ↓Zht, ↓Zhu, ↓Zhv, ↓Zhw, ↓Zhx, ↓Zhy, ↓Zhz, ↓Zia, ↓Zib, ↓Zic, ↓Zid, ↓Zie, ↓Zif, ↓Zig, ↓Zih, ↓Zii, ↓Zij, ↓Zik, reduceIte, if_true, if_false, Bool.false_eq_true, Bool.and_true, Bool.true_and, Bool.and_false, Bool.false_and, Bool.or_true, Bool.true_or, Bool.or_false, Bool.false_or, Int.cast_ofNat_Int, Zil, Zim, beq_self_eq_true, Int.reduceBEq, Int.reduceLT, Int.reduceLE, Int.reduceEq, Int.reduceNeg, Nat.reduceLT, Zin, Zio, Ziq, Zir, Zis, Zit, Ziu, Ziv, Ziw, Zix, Ziy, Ziz, Zja, Zjb, Zjc, Zjd, Zje, Zjf, Zjg, Zjh, Zji, Zjj, Zjk, Zjl, Zjm, Zjn, Zjo, Zjp, Zjq, Zjr, Zjs, Zjt, Zju, Zjv, Zjw, Zjx, Zjy, Zjz, Zka, Zkb, Zkc, Zkd, Zke, Zkf, Zkg, Zkh, Zki, Zkj, Zkk, Zkl, Zkm, Zkn, Zko, Zkp, List.lookup_nil, Zkq, Zkr, Option.map_some, Option.map_none, Option.bind_some, Option.bind_none, List.map_nil, List.map_cons, List.nil_append, List.cons_append, List.append_nil, List.length_cons, List.length_nil, Nat.reduceAdd, Nat.reduceLeDiff, Nat.reduceEqDiff, Nat.reduceBEq, decide_true, decide_false, Bool.not_true, Bool.not_false, Zks, Zkt, Zku, Zkv, Zkw, Zkx, Zky, Zkz, Zla, Zlb, Zlc, Zld, Zle, Zlf, List.getElem?_cons_zero, List.getElem?_cons_succ, Zlg, Zlh, Zli, Zlj, Zlk, Zll, Zlm, Zln, Zlo, Zlp, Zlq, Zlr, Zls, Zlt, Zlu, Zlv, Zlw, Zlx, Zly, setX, Zlz, Zma, Zmb, Int.ofNat_lt, Int.ofNat_le]
  refine lc_vec (fun i => rD (v i)) rfl (by simp only [wipeE, List.set_cons_zero, List.set_cons_succ]; rfl) (by omega) (fun i hi => ?_) ?_
  · simp -implicitDefEqProofs -dsimp only [↓Zaa, ↓Zab, ↓Zac, ↓Zad, ↓Zae, ↓Zaf, ↓Zag, ↓Zah, ↓Zai, ↓Zaj, ↓Zak, ↓Zal, ↓Zam, ↓Zan, ↓Zao, ↓Zap, ↓Zaq, ↓Zar, ↓Zas, ↓Zat, ↓Zau, ↓Zav, ↓Zaw, ↓Zax, ↓Zay, ↓Zaz, ↓Zba, ↓Zbb, ↓Zbc, ↓Zbd, ↓Zbe, ↓Zbf, ↓Zbg, ↓Zbh, ↓Zbi, ↓Zbj, ↓Zbk, ↓Zbl, ↓Zbm, ↓Zbn, ↓Zbo, ↓Zbp, ↓Zbq, ↓Zbr, ↓Zbs, ↓Zbt, ↓Zbu, ↓Zbv, ↓Zbw, ↓Zbx, ↓Zby, ↓Zbz, ↓Zca, ↓Zcb, ↓Zcc, ↓Zcd, ↓Zce, ↓Zcf, ↓Zcg, ↓Zch, ↓Zci, ↓Zcj, ↓Zck, ↓Zcl, ↓Zcm, ↓Zcn, ↓Zco, ↓Zcp, ↓Zcq, ↓Zcr, ↓Zcs, ↓Zct, ↓Zcu, ↓Zcv, ↓Zcw, ↓Zcx, ↓Zcy, ↓Zcz, ↓Zda, ↓Zdb, ↓Zdc, ↓Zdd, ↓Zde, ↓Zdf, ↓Zdg, ↓Zdh, ↓Zdi, ↓Zdj, ↓Zdk, ↓Zdl, ↓Zdm, ↓Zdn, ↓Zdo, ↓Zdp, ↓Zdq, ↓Zdr, ↓Zds, ↓Zdt, ↓Zdu, ↓Zdv, ↓Zdw, ↓Zdx, ↓Zdy, ↓Zdz, ↓Zea, ↓Zeb, ↓Zec, ↓Zed, ↓Zee, ↓Zef, ↓Zeg, ↓Zeh, ↓Zei, ↓Zej, ↓Zek, ↓Zel, ↓Zem, ↓Zen, ↓Zeo, ↓Zep, ↓Zeq, ↓Zer, ↓Zes, ↓Zet, ↓Zeu, ↓Zev, ↓Zew, ↓Zex, ↓Zey, ↓Zez, ↓Zfa, ↓Zfb, ↓Zfc, ↓Zfd, ↓Zfe, ↓Zff, ↓Zfg, ↓Zfh, ↓Zfi, ↓Zfj, ↓Zfk, ↓Zfl, ↓Zfm, ↓Zfn, ↓Zfo, ↓Zfp, ↓Zfq, ↓Zfr, ↓Zfs, ↓Zft, ↓Zfu, ↓Zfv, ↓Zfw, ↓Zfx, ↓Zfy, ↓Zfz, ↓Zga, ↓Zgb, ↓Zgc, ↓Zgd, ↓Zge, ↓Zgf, ↓Zgg, ↓Zgh, ↓Zgi, ↓Zgj, ↓Zgk, ↓Zgl, ↓Zgm, ↓Zgn, ↓Zgo, ↓Zgp, ↓Zgq, ↓Zgr, ↓Zgs, ↓Zgt, ↓Zgu, ↓Zgv, ↓Zgw, ↓Zgx, ↓Zgy, ↓Zgz, ↓Zha, ↓Zhb, ↓Zhc, ↓Zhd, ↓Zhe, ↓Zhf, ↓Zhg, ↓Zhh, ↓Zhi, ↓Zhj, ↓Zhk, ↓Zhl, ↓Zhm, ↓Zhn, ↓Zho, ↓Zhp, ↓Zhq, ↓Zhr, ↓Zhs, ↓Zht, ↓Zhu, ↓Zhv, ↓Zhw, ↓Zhx, ↓Zhy, ↓Zhz, ↓Zia, ↓Zib, ↓Zic, ↓Zid, ↓Zie, ↓Zif, ↓Zig, ↓Zih, ↓Zii, ↓Zij, ↓Zik, reduceIte, if_true, if_false, Bool.false_eq_true, Bool.and_true, Bool.true_and, Bool.and_false, Bool.false_and, Bool.or_true, Bool.true_or, Bool.or_false, Bool.false_or, Int.cast_ofNat_Int, Zil, Zim, beq_self_eq_true, Int.reduceBEq, Int.reduceLT, Int.reduceLE, Int.reduceEq, Int.reduceNeg, Nat.reduceLT, Zin, Zio, Ziq, Zir, Zis, Zit, Ziu, Ziv, Ziw, Zix, Ziy, Ziz, Zja, Zjb, Zjc, Zjd, Zje, Zjf, Zjg, Zjh, Zji, Zjj, Zjk, Zjl, Zjm, Zjn, Zjo, Zjp, Zjq, Zjr, Zjs, Zjt, Zju, Zjv, Zjw, Zjx, Zjy, Zjz, Zka, Zkb, Zkc, Zkd, Zke, Zkf, Zkg, Zkh, Zki, Zkj, Zkk, Zkl, Zkm, Zkn, Zko, Zkp, List.lookup_nil, Zkq, Zkr, Option.map_some, Option.map_none, Option.bind_some, Option.bind_none, List.map_nil, List.map_cons, List.nil_append, List.cons_append, List.append_nil, List.length_cons, List.length_nil, Nat.reduceAdd, Nat.reduceLeDiff, Nat.reduceEqDiff, Nat.reduceBEq, decide_true, decide_false, Bool.not_true, Bool.not_false, Zks, Zkt, Zku, Zkv, Zkw, Zkx, Zky, Zkz, Zla, Zlb, Zlc, Zld, Zle, Zlf, List.getElem?_cons_zero, List.getElem?_cons_succ, Zlg, Zlh, Zli, Zlj, Zlk, Zll, Zlm, Zln, Zlo, Zlp, Zlq, Zlr, Zls, Zlt, Zlu, Zlv, Zlw, Zlx, Zly, setX, Zlz, Zma, Zmb, Int.ofNat_lt, Int.ofNat_le, i_rat _ _ (den_ne' (v i)) (Rat.num_divInt_den (v i))]
    exact ⟨rfl, rfl, trivial⟩
  · simp -implicitDefEqProofs -dsimp only [↓Zaa, ↓Zab, ↓Zac, ↓Zad, ↓Zae, ↓Zaf, ↓Zag, ↓Zah, ↓Zai, ↓Zaj, ↓Zak, ↓Zal, ↓Zam, ↓Zan, ↓Zao, ↓Zap, ↓Zaq, ↓Zar, ↓Zas, ↓Zat, ↓Zau, ↓Zav, ↓Zaw, ↓Zax, ↓Zay, ↓Zaz, ↓Zba, ↓Zbb, ↓Zbc, ↓Zbd, ↓Zbe, ↓Zbf, ↓Zbg, ↓Zbh, ↓Zbi, ↓Zbj, ↓Zbk, ↓Zbl, ↓Zbm, ↓Zbn, ↓Zbo, ↓Zbp, ↓Zbq, ↓Zbr, ↓Zbs, ↓Zbt, ↓Zbu, ↓Zbv, ↓Zbw, ↓Zbx, ↓Zby, ↓Zbz, ↓Zca, ↓Zcb, ↓Zcc, ↓Zcd, ↓Zce, ↓Zcf, ↓Zcg, ↓Zch, ↓Zci, ↓Zcj, ↓Zck, ↓Zcl, ↓Zcm, ↓Zcn, ↓Zco, ↓Zcp, ↓Zcq, ↓Zcr, ↓Zcs, ↓Zct, ↓Zcu, ↓Zcv, ↓Zcw, ↓Zcx, ↓Zcy, ↓Zcz, ↓Zda, ↓Zdb, ↓Zdc, ↓Zdd, ↓Zde, ↓Zdf, ↓Zdg, ↓Zdh, ↓Zdi, ↓Zdj, ↓Zdk, ↓Zdl, ↓Zdm, ↓Zdn, ↓Zdo, ↓Zdp, ↓Zdq, ↓Zdr, ↓Zds, ↓Zdt, ↓Zdu, ↓Zdv, ↓Zdw, ↓Zdx, ↓Zdy, ↓Zdz, ↓Zea, ↓Zeb, ↓Zec, ↓Zed, ↓Zee, ↓Zef, ↓Zeg, ↓Zeh, ↓Zei, ↓Zej, ↓Zek, ↓Zel, ↓Zem, ↓Zen, ↓Zeo, ↓Zep, ↓Zeq, ↓Zer, ↓Zes, ↓Zet, ↓Zeu, ↓Zev, ↓Zew, ↓Zex, ↓Zey, ↓Zez, ↓Zfa, ↓Zfb, ↓Zfc, ↓Zfd, ↓Zfe, ↓Zff, ↓Zfg, ↓Zfh, ↓Zfi, ↓Zfj, ↓Zfk, ↓Zfl, ↓Zfm, ↓Zfn, ↓Zfo, ↓Zfp, ↓Zfq, ↓Zfr, ↓Zfs, ↓Zft, ↓Zfu, ↓Zfv, ↓Zfw, ↓Zfx, ↓Zfy, ↓Zfz, ↓Zga, ↓Zgb, ↓Zgc, ↓Zgd, ↓Zge, ↓Zgf, ↓Zgg, ↓Zgh, ↓Zgi, ↓Zgj, ↓Zgk, ↓Zgl, ↓Zgm, ↓Zgn, ↓Zgo, ↓Zgp, ↓Zgq, ↓Zgr, ↓Zgs, ↓Zgt, ↓Zgu, ↓Zgv, ↓Zgw, ↓Zgx, ↓Zgy, ↓Zgz, ↓Zha, ↓Zhb, ↓Zhc, ↓Zhd, ↓Zhe, ↓Zhf, ↓Zhg, ↓Zhh, ↓Zhi, ↓Zhj, ↓Zhk, ↓Zhl, ↓Zhm, ↓Zhn, ↓Zho, ↓Zhp, ↓Zhq, ↓Zhr, ↓Zhs, ↓Zht, ↓Zhu, ↓Zhv, ↓Zhw, ↓Zhx, ↓Zhy, ↓Zhz, ↓Zia, ↓Zib, ↓Zic, ↓Zid, ↓Zie, ↓Zif, ↓Zig, ↓Zih, ↓Zii, ↓Zij, ↓Zik, reduceIte, if_true, if_false, Bool.false_eq_true, Bool.and_true, Bool.true_and, Bool.and_false, Bool.false_and, Bool.or_true, Bool.true_or, Bool.or_false, Bool.false_or, Int.cast_ofNat_Int, Zil, Zim, beq_self_eq_true, Int.reduceBEq, Int.reduceLT, Int.reduceLE, Int.reduceEq, Int.reduceNeg, Nat.reduceLT, Zin, Zio, Ziq, Zir, Zis, Zit, Ziu, Ziv, Ziw, Zix, Ziy, Ziz, Zja, Zjb, Zjc, Zjd, Zje, Zjf, Zjg, Zjh, Zji, Zjj, Zjk, Zjl, Zjm, Zjn, Zjo, Zjp, Zjq, Zjr, Zjs, Zjt, Zju, Zjv, Zjw, Zjx, Zjy, Zjz, Zka, Zkb, Zkc, Zkd, Zke, Zkf, Zkg, Zkh, Zki, Zkj, Zkk, Zkl, Zkm, Zkn, Zko, Zkp, List.lookup_nil, Zkq, Zkr, Option.map_some, Option.map_none, Option.bind_some, Option.bind_none, List.map_nil, List.map_cons, List.nil_append, List.cons_append, List.append_nil, List.length_cons, List.length_nil, Nat.reduceAdd, Nat.reduceLeDiff, Nat.reduceEqDiff, Nat.reduceBEq, decide_true, decide_false, Bool.not_true, Bool.not_false, Zks, Zkt, Zku, Zkv, Zkw, Zkx, Zky, Zkz, Zla, Zlb, Zlc, Zld, Zle, Zlf, List.getElem?_cons_zero, List.getElem?_cons_succ, Zlg, Zlh, Zli, Zlj, Zlk, Zll, Zlm, Zln, Zlo, Zlp, Zlq, Zlr, Zls, Zlt, Zlu, Zlv, Zlw, Zlx, Zly, setX, Zlz, Zma, Zmb, Int.ofNat_lt, Int.ofNat_le]
theorem l_dot {w j k : Nat} {u v : Nat → Rat} (hu : ∀ i, i < w → Sz j (u i)) (hv : ∀ i, i < w → Sz k (v i)) (l : 1 + w * (j + k + 1) ≤ 10000000) (hw : w ≤ 1000) {A B : D} (hA : ∀ i : Nat, ixD A (.int (i : Int)) = (vec w fun i => pD (u i))[(i : Nat)]?) (hB : ∀ i : Nat, ixD B (.int (i : Int)) = (vec w fun i => pD (v i))[(i : Nat)]?) (hL : bLen [A] = some (.d (.int (w : Int)))) : φ_law_dot [.val A, .val B] = .ok (.d (pD (sumN w fun i => u i * v i))) [] := by
  apply run_law_dot
  unfold g_law_dot
  have hsm := smI_ok (show w ≤ 16777216 by omega)
  simp -implicitDefEqProofs -dsimp only [↓Zaa, ↓Zab, ↓Zac, ↓Zad, ↓Zae, ↓Zaf, ↓Zag, ↓Zah, ↓Zai, ↓Zaj, ↓Zak, ↓Zal, ↓Zam, ↓Zan, ↓Zao, ↓Zap, ↓Zaq, ↓Zar, ↓Zas, ↓Zat, ↓Zau, ↓Zav, ↓Zaw, ↓Zax, ↓Zay, ↓Zaz, ↓Zba, ↓Zbb, ↓Zbc, ↓Zbd, ↓Zbe, ↓Zbf, ↓Zbg, ↓Zbh, ↓Zbi, ↓Zbj, ↓Zbk, ↓Zbl, ↓Zbm, ↓Zbn, ↓Zbo, ↓Zbp, ↓Zbq, ↓Zbr, ↓Zbs, ↓Zbt, ↓Zbu, ↓Zbv, ↓Zbw, ↓Zbx, ↓Zby, ↓Zbz, ↓Zca, ↓Zcb, ↓Zcc, ↓Zcd, ↓Zce, ↓Zcf, ↓Zcg, ↓Zch, ↓Zci, ↓Zcj, ↓Zck, ↓Zcl, ↓Zcm, ↓Zcn, ↓Zco, ↓Zcp, ↓Zcq, ↓Zcr, ↓Zcs, ↓Zct, ↓Zcu, ↓Zcv, ↓Zcw, ↓Zcx, ↓Zcy, ↓Zcz, ↓Zda, ↓Zdb, ↓Zdc, ↓Zdd, ↓Zde, ↓Zdf, ↓Zdg, ↓Zdh, ↓Zdi, ↓Zdj, ↓Zdk, ↓Zdl, ↓Zdm, ↓Zdn, ↓Zdo, ↓Zdp, ↓Zdq, ↓Zdr, ↓Zds, ↓Zdt, ↓Zdu, ↓Zdv, ↓Zdw, ↓Zdx, ↓Zdy, ↓Zdz, ↓Zea, ↓Zeb, ↓Zec, ↓Zed, ↓Zee, ↓Zef, ↓Zeg, ↓Zeh, ↓Zei, ↓Zej, ↓Zek, ↓Zel, ↓Zem, ↓Zen, ↓Zeo, ↓Zep, ↓Zeq, ↓Zer, ↓Zes, ↓Zet, ↓Zeu, ↓Zev, ↓Zew, ↓Zex, ↓Zey, ↓Zez, ↓Zfa, ↓Zfb, ↓Zfc, ↓Zfd, ↓Zfe, ↓Zff, ↓Zfg, ↓Zfh, ↓Zfi, ↓Zfj, ↓Zfk, ↓Zfl, ↓Zfm, ↓Zfn, ↓Zfo, ↓Zfp, ↓Zfq, ↓Zfr, ↓Zfs, ↓Zft, ↓Zfu, ↓Zfv, ↓Zfw, ↓Zfx, ↓Zfy, ↓Zfz, ↓Zga, ↓Zgb, ↓Zgc, ↓Zgd, ↓Zge, ↓Zgf, ↓Zgg, ↓Zgh, ↓Zgi, ↓Zgj, ↓Zgk, ↓Zgl, ↓Zgm, ↓Zgn, ↓Zgo, ↓Zgp, ↓Zgq, ↓Zgr, ↓Zgs, ↓Zgt, ↓Zgu, ↓Zgv, ↓Zgw, ↓Zgx, ↓Zgy, ↓Zgz, ↓Zha, ↓Zhb, ↓Zhc, ↓Zhd, ↓Zhe, ↓Zhf, ↓Zhg, ↓Zhh, ↓Zhi, ↓Zhj, ↓Zhk, ↓Zhl, ↓Zhm, ↓Zhn, ↓Zho, ↓Zhp, ↓Zhq, ↓Zhr, ↓Zhs, ↓Zht, ↓Zhu, ↓Zhv, ↓Zhw, ↓Zhx, ↓Zhy, ↓Zhz, ↓Zia, ↓Zib, ↓Zic, ↓Zid, ↓Zie, ↓Zif, ↓Zig, ↓Zih, ↓Zii, ↓Zij, ↓Zik, reduceIte, if_true, if_false, Bool.false_eq_true, Bool.and_true, Bool.true_and, Bool.and_false, Bool.false_and, Bool.or_true, Bool.true_or, Bool.or_false, Bool.false_or, Int.cast_ofNat_Int, Zil, Zim, beq_self_eq_true, Int.reduceBEq, Int.reduceLT, Int.reduceLE, Int.reduceEq, Int.reduceNeg, Nat.reduceLT, Zin, Zio, Ziq, Zir, Zis, Zit, Ziu, Ziv, Ziw, Zix, Ziy, Ziz, Zja, Zjb, Zjc, Zjd, Zje, Zjf, Zjg, Zjh, Zji, Zjj, Zjk, Zjl, Zjm, Zjn, Zjo, Zjp, Zjq, Zjr, Zjs, Zjt, Zju, Zjv, Zjw, Zjx, Zjy, Zjz, Zka, Zkb, Zkc, Zkd, Zke, Zkf, Zkg, Zkh, Zki, Zkj, Zkk, Zkl, Zkm, Zkn, Zko, Zkp, List.lookup_nil, Zkq, Zkr, Option.map_some, Option.map_none, Option.bind_some, Option.bind_none, List.map_nil, List.map_cons, List.nil_append, List.cons_append, List.append_nil, List.length_cons, List.length_nil, Nat.reduceAdd, Nat.reduceLeDiff, Nat.reduceEqDiff, Nat.reduceBEq, decide_true, decide_false, Bool.not_true, Bool.not_false, Zks, Zkt, Zku, Zkv, Zkw, Zkx, Zky, Zkz, Zla, Zlb, Zlc, Zld, Zle, Zlf, List.getElem?_cons_zero, List.getElem?_cons_succ, Zlg, Zlh, Zli, Zlj, Zlk, Zll, Zlm, Zln, Zlo, Zlp, Zlq, Zlr, Zls, Zlt, Zlu, Zlv, Zlw, Zlx, Zly, setX, Zlz, Zma, Zmb, Int.ofNat_lt, Int.ofNat_le, hL, hsm]
  refine for_r0 (fun i e => ∃ x, e = [.val A, .val B, .val (pD (sumN i fun i => u i * v i)), x] ∧ Fr1 x) ?_ ?_ ?_
  · exact ⟨.un, rfl, .un⟩
  · rintro i e hi ⟨x, rfl, hx⟩
    have hz := sum_sz (n := i) (fun m hm => hu m (by omega)) fun m hm => hv m (by omega)
    have p1 : (i + 1) * (j + k + 1) ≤ w * (j + k + 1) := Nat.mul_le_mul_right _ hi
    rw [Nat.add_mul] at p1
    simp -implicitDefEqProofs -dsimp only [↓Zaa, ↓Zab, ↓Zac, ↓Zad, ↓Zae, ↓Zaf, ↓Zag, ↓Zah, ↓Zai, ↓Zaj, ↓Zak, ↓Zal, ↓Zam, ↓Zan, ↓Zao, ↓Zap, ↓Zaq, ↓Zar, ↓Zas, ↓Zat, ↓Zau, ↓Zav, ↓Zaw, ↓Zax, ↓Zay, ↓Zaz, ↓Zba, ↓Zbb, ↓Zbc, ↓Zbd, ↓Zbe, ↓Zbf, ↓Zbg, ↓Zbh, ↓Zbi, ↓Zbj, ↓Zbk, ↓Zbl, ↓Zbm, ↓Zbn, ↓Zbo, ↓Zbp, ↓Zbq, ↓Zbr, ↓Zbs, ↓Zbt, ↓Zbu, ↓Zbv, ↓Zbw, ↓Zbx, ↓Zby, ↓Zbz, ↓Zca, ↓Zcb, ↓Zcc, ↓Zcd, ↓Zce, ↓Zcf, ↓Zcg, ↓Zch, ↓Zci, ↓Zcj, ↓Zck, ↓Zcl, ↓Zcm, ↓Zcn, ↓Zco, ↓Zcp, ↓Zcq, ↓Zcr, ↓Zcs, ↓Zct, ↓Zcu, ↓Zcv, ↓Zcw, ↓Zcx, ↓Zcy, ↓Zcz, ↓Zda, ↓Zdb, ↓Zdc, ↓Zdd, ↓Zde, ↓Zdf, ↓Zdg, ↓Zdh, ↓Zdi, ↓Zdj, ↓Zdk, ↓Zdl, ↓Zdm, ↓Zdn, ↓Zdo, ↓Zdp, ↓Zdq, ↓Zdr, ↓Zds, ↓Zdt, ↓Zdu, ↓Zdv, ↓Zdw, ↓Zdx, ↓Zdy, ↓Zdz, ↓Zea, ↓Zeb, ↓Zec, ↓Zed, ↓Zee, ↓Zef, ↓Zeg, ↓Zeh, ↓Zei, ↓Zej, ↓Zek, ↓Zel, ↓Zem, ↓Zen, ↓Zeo, ↓Zep, ↓Zeq, ↓Zer, ↓Zes, ↓Zet, ↓Zeu, ↓Zev, ↓Zew, ↓Zex, ↓Zey, ↓Zez, ↓Zfa, ↓Zfb, ↓Zfc, ↓Zfd, ↓Zfe, ↓Zff, ↓Zfg, ↓Zfh, ↓Zfi, ↓Zfj, ↓Zfk, ↓Zfl, ↓Zfm, ↓Zfn, ↓Zfo, ↓Zfp, ↓Zfq, ↓Zfr, ↓Zfs, ↓Zft, ↓Zfu, ↓Zfv, ↓Zfw, ↓Zfx, ↓Zfy, ↓Zfz, ↓Zga, ↓Zgb, ↓Zgc, ↓Zgd, ↓Zge, ↓Zgf, ↓Zgg, ↓Zgh, ↓Zgi, ↓Zgj, ↓Zgk, ↓Zgl, ↓Zgm, ↓Zgn, ↓Zgo, ↓Zgp, ↓Zgq, ↓Zgr, ↓Zgs, ↓Zgt, ↓Zgu, ↓Zgv, ↓Zgw, ↓Zgx, ↓Zgy, ↓Zgz, ↓Zha, ↓Zhb, ↓Zhc, ↓Zhd, ↓Zhe, ↓Zhf, ↓Zhg, ↓Zhh, ↓Zhi, ↓Zhj, ↓Zhk, ↓Zhl, ↓Zhm, ↓Zhn, ↓Zho, ↓Zhp, ↓Zhq, ↓Zhr, ↓Zhs, ↓Zht, ↓Zhu, ↓Zhv, ↓Zhw, ↓Zhx, ↓Zhy, ↓Zhz, ↓Zia, ↓Zib, ↓Zic, ↓Zid, ↓Zie, ↓Zif, ↓Zig, ↓Zih, ↓Zii, ↓Zij, ↓Zik, reduceIte, if_true, if_false, Bool.false_eq_true, Bool.and_true, Bool.true_and, Bool.and_false, Bool.false_and, Bool.or_true, Bool.true_or, Bool.or_false, Bool.false_or, Int.cast_ofNat_Int, Zil, Zim, beq_self_eq_true, Int.reduceBEq, Int.reduceLT, Int.reduceLE, Int.reduceEq, Int.reduceNeg, Nat.reduceLT, Zin, Zio, Ziq, Zir, Zis, Zit, Ziu, Ziv, Ziw, Zix, Ziy, Ziz, Zja, Zjb, Zjc, Zjd, Zje, Zjf, Zjg, Zjh, Zji, Zjj, Zjk, Zjl, Zjm, Zjn, Zjo, Zjp, Zjq, Zjr, Zjs, Zjt, Zju, Zjv, Zjw, Zjx, Zjy, Zjz, Zka, Zkb, Zkc, Zkd, Zke, Zkf, Zkg, Zkh, Zki, Zkj, Zkk, Zkl, Zkm, Zkn, Zko, Zkp, List.lookup_nil, Zkq, Zkr, Option.map_some, Option.map_none, Option.bind_some, Option.bind_none, List.map_nil, List.map_cons, List.nil_append, List.cons_append, List.append_nil, List.length_cons, List.length_nil, Nat.reduceAdd, Nat.reduceLeDiff, Nat.reduceEqDiff, Nat.reduceBEq, decide_true, decide_false, Bool.not_true, Bool.not_false, Zks, Zkt, Zku, Zkv, Zkw, Zkx, Zky, Zkz, Zla, Zlb, Zlc, Zld, Zle, Zlf, List.getElem?_cons_zero, List.getElem?_cons_succ, Zlg, Zlh, Zli, Zlj, Zlk, Zll, Zlm, Zln, Zlo, Zlp, Zlq, Zlr, Zls, Zlt, Zlu, Zlv, Zlw, Zlx, Zly, setX, Zlz, Zma, Zmb, Int.ofNat_lt, Int.ofNat_le, hx, hA, hB, vec_get hi, l_mul (hu i hi) (hv i hi) (by omega), l_add hz ((hu i hi).mul (hv i hi)) (by omega)]
    exact ⟨_, rfl, .val⟩
  · rintro e ⟨x, rfl, hx⟩
    simp -implicitDefEqProofs -dsimp only [↓Zaa, ↓Zab, ↓Zac, ↓Zad, ↓Zae, ↓Zaf, ↓Zag, ↓Zah, ↓Zai, ↓Zaj, ↓Zak, ↓Zal, ↓Zam, ↓Zan, ↓Zao, ↓Zap, ↓Zaq, ↓Zar, ↓Zas, ↓Zat, ↓Zau, ↓Zav, ↓Zaw, ↓Zax, ↓Zay, ↓Zaz, ↓Zba, ↓Zbb, ↓Zbc, ↓Zbd, ↓Zbe, ↓Zbf, ↓Zbg, ↓Zbh, ↓Zbi, ↓Zbj, ↓Zbk, ↓Zbl, ↓Zbm, ↓Zbn, ↓Zbo, ↓Zbp, ↓Zbq, ↓Zbr, ↓Zbs, ↓Zbt, ↓Zbu, ↓Zbv, ↓Zbw, ↓Zbx, ↓Zby, ↓Zbz, ↓Zca, ↓Zcb, ↓Zcc, ↓Zcd, ↓Zce, ↓Zcf, ↓Zcg, ↓Zch, ↓Zci, ↓Zcj, ↓Zck, ↓Zcl, ↓Zcm, ↓Zcn, ↓Zco, ↓Zcp, ↓Zcq, ↓Zcr, ↓Zcs, ↓Zct, ↓Zcu, ↓Zcv, ↓Zcw, ↓Zcx, ↓Zcy, ↓Zcz, ↓Zda, ↓Zdb, ↓Zdc, ↓Zdd, ↓Zde, ↓Zdf, ↓Zdg, ↓Zdh, ↓Zdi, ↓Zdj, ↓Zdk, ↓Zdl, ↓Zdm, ↓Zdn, ↓Zdo, ↓Zdp, ↓Zdq, ↓Zdr, ↓Zds, ↓Zdt, ↓Zdu, ↓Zdv, ↓Zdw, ↓Zdx, ↓Zdy, ↓Zdz, ↓Zea, ↓Zeb, ↓Zec, ↓Zed, ↓Zee, ↓Zef, ↓Zeg, ↓Zeh, ↓Zei, ↓Zej, ↓Zek, ↓Zel, ↓Zem, ↓Zen, ↓Zeo, ↓Zep, ↓Zeq, ↓Zer, ↓Zes, ↓Zet, ↓Zeu, ↓Zev, ↓Zew, ↓Zex, ↓Zey, ↓Zez, ↓Zfa, ↓Zfb, ↓Zfc, ↓Zfd, ↓Zfe, ↓Zff, ↓Zfg, ↓Zfh, ↓Zfi, ↓Zfj, ↓Zfk, ↓Zfl, ↓Zfm, ↓Zfn, ↓Zfo, ↓Zfp, ↓Zfq, ↓Zfr, ↓Zfs, ↓Zft, ↓Zfu, ↓Zfv, ↓Zfw, ↓Zfx, ↓Zfy, ↓Zfz, ↓Zga, ↓Zgb, ↓Zgc, ↓Zgd, ↓Zge, ↓Zgf, ↓Zgg, ↓Zgh, ↓Zgi, ↓Zgj, ↓Zgk, ↓Zgl, ↓Zgm, ↓Zgn, ↓Zgo, ↓Zgp, ↓Zgq, ↓Zgr, ↓Zgs, ↓Zgt, ↓Zgu, ↓Zgv, ↓Zgw, ↓Zgx, ↓Zgy, ↓Zgz, ↓Zha, ↓Zhb, ↓Zhc, ↓Zhd, ↓Zhe, ↓Zhf, ↓Zhg, ↓Zhh, ↓Zhi, ↓Zhj, ↓Zhk, ↓Zhl, ↓Zhm, ↓Zhn, ↓Zho, ↓Zhp, ↓Zhq, ↓Zhr, ↓Zhs, ↓Zht, ↓Zhu, ↓Zhv, ↓Zhw, ↓Zhx, ↓Zhy, ↓Zhz, ↓Zia, ↓Zib, ↓Zic, ↓Zid, ↓Zie, ↓Zif, ↓Zig, ↓Zih, ↓Zii, ↓Zij, ↓Zik, reduceIte, if_true, if_false, Bool.false_eq_true, Bool.and_true, Bool.true_and, Bool.and_false, Bool.false_and, Bool.or_true, Bool.true_or, Bool.or_false, Bool.false_or, Int.cast_ofNat_Int, Zil, Zim, beq_self_eq_true, Int.reduceBEq, Int.reduceLT, Int.reduceLE, Int.reduceEq, Int.reduceNeg, Nat.reduceLT, Zin, Zio, Ziq, Zir, Zis, Zit, Ziu, Ziv, Ziw, Zix, Ziy, Ziz, Zja, Zjb, Zjc, Zjd, Zje, Zjf, Zjg, Zjh, Zji, Zjj, Zjk, Zjl, Zjm, Zjn, Zjo, Zjp, Zjq, Zjr, Zjs, Zjt, Zju, Zjv, Zjw, Zjx, Zjy, Zjz, Zka, Zkb, Zkc, Zkd, Zke, Zkf, Zkg, Zkh, Zki, Zkj, Zkk, Zkl, Zkm, Zkn, Zko, Zkp, List.lookup_nil, Zkq, Zkr, Option.map_some, Option.map_none, Option.bind_some, Option.bind_none, List.map_nil, List.map_cons, List.nil_append, List.cons_append, List.append_nil, List.length_cons, List.length_nil, Nat.reduceAdd, Nat.reduceLeDiff, Nat.reduceEqDiff, Nat.reduceBEq, decide_true, decide_false, Bool.not_true, Bool.not_false, Zks, Zkt, Zku, Zkv, Zkw, Zkx, Zky, Zkz, Zla, Zlb, Zlc, Zld, Zle, Zlf, List.getElem?_cons_zero, List.getElem?_cons_succ, Zlg, Zlh, Zli, Zlj, Zlk, Zll, Zlm, Zln, Zlo, Zlp, Zlq, Zlr, Zls, Zlt, Zlu, Zlv, Zlw, Zlx, Zly, setX, Zlz, Zma, Zmb, Int.ofNat_lt, Int.ofNat_le]
end L2.S.W

set_option Elab.async false
set_option linter.all false
set_option maxRecDepth 100000
set_option maxHeartbeats 8000000
namespace L2.S.W
open PySem PySem.Spec PyProof.Rows L2 L2.S
theorem m_unit {n k : Nat} (hn : n ≤ 1000) : φ_unit [.val (.int n), .val (.int k)] = .ok (.o (.l (vec n fun i => rD (if i = k then 1 else 0)))) [] := by
  apply run_unit
  unfold g_unit
  have hsm := smI_ok (show n ≤ 16777216 by omega)
  simp -implicitDefEqProofs -dsimp only [↓Zaa, ↓Zab, ↓Zac, ↓Zad, ↓Zae, ↓Zaf, ↓Zag, ↓Zah, ↓Zai, ↓Zaj, ↓Zak, ↓Zal, ↓Zam, ↓Zan, ↓Zao, ↓Zap, ↓Zaq, ↓Zar, ↓Zas, ↓Zat, ↓Zau, ↓Zav, ↓Zaw, ↓Zax, ↓Zay, ↓Zaz, ↓Zba, ↓Zbb, ↓Zbc, ↓Zbd, ↓Zbe, ↓Zbf, ↓Zbg, ↓Zbh, ↓Zbi, ↓Zbj, ↓Zbk, ↓Zbl, ↓Zbm, ↓Zbn, ↓Zbo, ↓Zbp, ↓Zbq, ↓Zbr, ↓Zbs, ↓Zbt, ↓Zbu, ↓Zbv, ↓Zbw, ↓Zbx, ↓Zby, ↓Zbz, ↓Zca, ↓Zcb, ↓Zcc, ↓Zcd, ↓Zce, ↓Zcf, ↓Zcg, ↓Zch, ↓Zci, ↓Zcj, ↓Zck, ↓Zcl, ↓Zcm, ↓Zcn, ↓Zco, ↓Zcp, ↓Zcq, ↓Zcr, ↓Zcs, ↓Zct, ↓Zcu, ↓Zcv, ↓Zcw, ↓Zcx, ↓Zcy, ↓Zcz, ↓Zda, ↓Zdb, ↓Zdc, ↓Zdd, ↓Zde, ↓Zdf, ↓Zdg, ↓Zdh, ↓Zdi, ↓Zdj, ↓Zdk, ↓Zdl, ↓Zdm, ↓Zdn, ↓Zdo, ↓Zdp, ↓Zdq, ↓Zdr, ↓Zds, ↓Zdt, ↓Zdu, ↓Zdv, ↓Zdw, ↓Zdx, ↓Zdy, ↓Zdz, ↓Zea, ↓Zeb, ↓Zec, ↓Zed, ↓Zee, ↓Zef, ↓Zeg, ↓Zeh, ↓Zei, ↓Zej, ↓Zek, ↓Zel, ↓Zem, ↓Zen, ↓Zeo, ↓Zep, ↓Zeq, ↓Zer, ↓Zes, ↓Zet, ↓Zeu, ↓Zev, ↓Zew, ↓Zex, ↓Zey, ↓Zez, ↓Zfa, ↓Zfb, ↓Zfc, ↓Zfd, ↓Zfe, ↓Zff, ↓Zfg, ↓Zfh, ↓Zfi, ↓Zfj, ↓Zfk, ↓Zfl, ↓Zfm, ↓Zfn, ↓Zfo, ↓Zfp, ↓Zfq, ↓Zfr, ↓Zfs, ↓Zft, ↓Zfu, ↓Zfv, ↓Zfw, ↓Zfx, ↓Zfy, ↓Zfz, ↓Zga, ↓Zgb, ↓Zgc, ↓Zgd, ↓Zge, ↓Zgf, ↓Zgg, ↓Zgh, ↓Zgi, ↓Zgj, ↓Zgk, ↓Zgl, ↓Zgm, ↓Zgn, ↓Zgo, ↓Zgp, ↓Zgq, ↓Zgr, ↓Zgs, ↓Zgt, ↓Zgu, ↓Zgv, ↓Zgw, ↓Zgx, ↓Zgy, ↓Zgz, ↓Zha, ↓Zhb, ↓Zhc, ↓Zhd, ↓Zhe, ↓Zhf, ↓Zhg, ↓Zhh, ↓Zhi, ↓Zhj, ↓Zhk, ↓Zhl, ↓Zhm, ↓Zhn, ↓Zho, ↓Zhp, ↓Zhq, ↓Zhr, ↓Zhs, ↓Zht, ↓Zhu, ↓Zhv, ↓Zhw, ↓Zhx, ↓Zhy, ↓Zhz, ↓Zia, ↓Zib, ↓Zic, ↓Zid, ↓Zie, ↓Zif, ↓Zig, ↓Zih, ↓Zii, ↓Zij, ↓Zik, reduceIte, if_true, if_false, Bool.false_eq_true, Bool.and_true, Bool.true_and, Bool.and_false, Bool.false_and, Bool.or_true, Bool.true_or, Bool.or_false, Bool.false_or, Int.cast_ofNat_Int, Zil, Zim, beq_self_eq_true, Int.reduceBEq, Int.reduceLT, Int.reduceLE, Int.reduceEq, Int.reduceNeg, Nat.reduceLT, Zin, Zio, Ziq, Zir, Zis, Zit, Ziu, Ziv, Ziw, Zix, Ziy, Ziz, Zja, Zjb, Zjc, Zjd, Zje, Zjf, Zjg, Zjh, Zji, Zjj, Zjk, Zjl, Zjm, Zjn, Zjo, Zjp, Zjq, Zjr, Zjs, Zjt, Zju, Zjv, Zjw, Zjx, Zjy, Zjz, Zka, Zkb, Zkc, Zkd, Zke, Zkf, Zkg, Zkh, Zki, Zkj, Zkk, Zkl, Zkm, Zkn, Zko, Zkp, List.lookup_nil, Zkq, Zkr, Option.map_some, Option.map_none, Option.bind_some, Option.bind_none, List.map_nil, List.map_cons, List.nil_append, List.cons_append, List.append_nil, List.length_cons, List.length_nil, Nat.reduceAdd, Nat.reduceLeDiff, Nat.reduceEqDiff, Nat.reduceBEq, decide_true, decide_false, Bool.not_true, Bool.not_false, Zks, Zkt, Zku, Zkv, Zkw, Zkx, Zky, Zkz, Zla, Zlb, Zlc, Zld, Zle, Zlf, List.getElem?_cons_zero, List.getElem?_cons_succ, Zlg, Zlh, Zli, Zlj, Zlk, Zll, Zlm, Zln, Zlo, Zlp, Zlq, Zlr, Zls, Zlt, Zlu, Zlv, Zlw, Zlx, Zly, setX, Zlz, Zma, Zmb, Int.ofNat_lt, Int.ofNat_le, hsm]
  refine lc_rng (fun i => rD (if i = k then 1 else 0)) rfl (by simp only [wipeE, List.set_cons_zero, List.set_cons_succ]; rfl) (by omega) (fun i hi => ?_) ?_
  · by_cases h : i = k
    · rw [if_pos h]
      subst h
      have e1 : ((i : Int) == (i : Int)) = true := by simp
      simp -implicitDefEqProofs -dsimp only [↓Zaa, ↓Zab, ↓Zac, ↓Zad, ↓Zae, ↓Zaf, ↓Zag, ↓Zah, ↓Zai, ↓Zaj, ↓Zak, ↓Zal, ↓Zam, ↓Zan, ↓Zao, ↓Zap, ↓Zaq, ↓Zar, ↓Zas, ↓Zat, ↓Zau, ↓Zav, ↓Zaw, ↓Zax, ↓Zay, ↓Zaz, ↓Zba, ↓Zbb, ↓Zbc, ↓Zbd, ↓Zbe, ↓Zbf, ↓Zbg, ↓Zbh, ↓Zbi, ↓Zbj, ↓Zbk, ↓Zbl, ↓Zbm, ↓Zbn, ↓Zbo, ↓Zbp, ↓Zbq, ↓Zbr, ↓Zbs, ↓Zbt, ↓Zbu, ↓Zbv, ↓Zbw, ↓Zbx, ↓Zby, ↓Zbz, ↓Zca, ↓Zcb, ↓Zcc, ↓Zcd, ↓Zce, ↓Zcf, ↓Zcg, ↓Zch, ↓Zci, ↓Zcj, ↓Zck, ↓Zcl, ↓Zcm, ↓Zcn, ↓Zco, ↓Zcp, ↓Zcq, ↓Zcr, ↓Zcs, ↓Zct, ↓Zcu, ↓Zcv, ↓Zcw, ↓Zcx, ↓Zcy, ↓Zcz, ↓Zda, ↓Zdb, ↓Zdc, ↓Zdd, ↓Zde, ↓Zdf, ↓Zdg, ↓Zdh, ↓Zdi, ↓Zdj, ↓Zdk, ↓Zdl, ↓Zdm, ↓Zdn, ↓Zdo, ↓Zdp, ↓Zdq, ↓Zdr, ↓Zds, ↓Zdt, ↓Zdu, ↓Zdv, ↓Zdw, ↓Zdx, ↓Zdy, ↓Zdz, ↓Zea, ↓Zeb, ↓Zec, ↓Zed, ↓Zee, ↓Zef, ↓Zeg, ↓Zeh, ↓Zei, ↓Zej, ↓Zek, ↓Zel, ↓Zem, ↓Zen, ↓Zeo, ↓Zep, ↓Zeq, ↓Zer, ↓Zes, ↓Zet, ↓Zeu, ↓Zev, ↓Zew, ↓Zex, ↓Zey, ↓Zez, ↓Zfa, ↓Zfb, ↓Zfc, ↓Zfd, ↓Zfe, ↓Zff, ↓Zfg, ↓Zfh, ↓Zfi, ↓Zfj, ↓Zfk, ↓Zfl, ↓Zfm, ↓Zfn, ↓Zfo, ↓Zfp, ↓Zfq, ↓Zfr, ↓Zfs, ↓Zft, ↓Zfu, ↓Zfv, ↓Zfw, ↓Zfx, ↓Zfy, ↓Zfz, ↓Zga, ↓Zgb, ↓Zgc, ↓Zgd, ↓Zge, ↓Zgf, ↓Zgg, ↓Zgh, ↓Zgi, ↓Zgj, ↓Zgk, ↓Zgl, ↓Zgm, ↓Zgn, ↓Zgo, ↓Zgp, ↓Zgq, ↓Zgr, ↓Zgs, ↓Zgt, ↓Zgu, ↓Zgv, ↓Zgw, ↓Zgx, ↓Zgy, ↓Zgz, ↓Zha, ↓Zhb, ↓Zhc, ↓Zhd, ↓Zhe, ↓Zhf, ↓Zhg, ↓Zhh, ↓Zhi, ↓Zhj, ↓Zhk, ↓Zhl, ↓Zhm, ↓Zhn, ↓Zho, ↓Zhp, ↓Zhq, ↓Zhr, ↓Zhs, ↓Zht, ↓Zhu, ↓Zhv, ↓Zhw, ↓Zhx, ↓Zhy, ↓Zhz, ↓Zia, ↓Zib, ↓Zic, ↓Zid, ↓Zie, ↓Zif, ↓Zig, ↓Zih, ↓Zii, ↓Zij, ↓Zik, reduceIte, if_true, if_false, Bool.false_eq_true, Bool.and_true, Bool.true_and, Bool.and_false, Bool.false_and, Bool.or_true, Bool.true_or, Bool.or_false, Bool.false_or, Int.cast_ofNat_Int, Zil, Zim, beq_self_eq_true, Int.reduceBEq, Int.reduceLT, Int.reduceLE, Int.reduceEq, Int.reduceNeg, Nat.reduceLT, Zin, Zio, Ziq, Zir, Zis, Zit, Ziu, Ziv, Ziw, Zix, Ziy, Ziz, Zja, Zjb, Zjc, Zjd, Zje, Zjf, Zjg, Zjh, Zji, Zjj, Zjk, Zjl, Zjm, Zjn, Zjo, Zjp, Zjq, Zjr, Zjs, Zjt, Zju, Zjv, Zjw, Zjx, Zjy, Zjz, Zka, Zkb, Zkc, Zkd, Zke, Zkf, Zkg, Zkh, Zki, Zkj, Zkk, Zkl, Zkm, Zkn, Zko, Zkp, List.lookup_nil, Zkq, Zkr, Option.map_some, Option.map_none, Option.bind_some, Option.bind_none, List.map_nil, List.map_cons, List.nil_append, List.cons_append, List.append_nil, List.length_cons, List.length_nil, Nat.reduceAdd, Nat.reduceLeDiff, Nat.reduceEqDiff, Nat.reduceBEq, decide_true, decide_false, Bool.not_true, Bool.not_false, Zks, Zkt, Zku, Zkv, Zkw, Zkx, Zky, Zkz, Zla, Zlb, Zlc, Zld, Zle, Zlf, List.getElem?_cons_zero, List.getElem?_cons_succ, Zlg, Zlh, Zli, Zlj, Zlk, Zll, Zlm, Zln, Zlo, Zlp, Zlq, Zlr, Zls, Zlt, Zlu, Zlv, Zlw, Zlx, Zly, setX, Zlz, Zma, Zmb, Int.ofNat_lt, Int.ofNat_le, e1, i_rat 1 1 (by decide) (show Rat.divInt 1 1 = 1 by decide)]
      exact ⟨rfl, rfl, trivial⟩
    · rw [if_neg h]
      have e1 : ((i : Int) == (k : Int)) = false := by simp; omega
      simp -implicitDefEqProofs -dsimp only [↓Zaa, ↓Zab, ↓Zac, ↓Zad, ↓Zae, ↓Zaf, ↓Zag, ↓Zah, ↓Zai, ↓Zaj, ↓Zak, ↓Zal, ↓Zam, ↓Zan, ↓Zao, ↓Zap, ↓Zaq, ↓Zar, ↓Zas, ↓Zat, ↓Zau, ↓Zav, ↓Zaw, ↓Zax, ↓Zay, ↓Zaz, ↓Zba, ↓Zbb, ↓Zbc, ↓Zbd, ↓Zbe, ↓Zbf, ↓Zbg, ↓Zbh, ↓Zbi, ↓Zbj, ↓Zbk, ↓Zbl, ↓Zbm, ↓Zbn, ↓Zbo, ↓Zbp, ↓Zbq, ↓Zbr, ↓Zbs, ↓Zbt, ↓Zbu, ↓Zbv, ↓Zbw, ↓Zbx, ↓Zby, ↓Zbz, ↓Zca, ↓Zcb, ↓Zcc, ↓Zcd, ↓Zce, ↓Zcf, ↓Zcg, ↓Zch, ↓Zci, ↓Zcj, ↓Zck, ↓Zcl, ↓Zcm, ↓Zcn, ↓Zco, ↓Zcp, ↓Zcq, ↓Zcr, ↓Zcs, ↓Zct, ↓Zcu, ↓Zcv, ↓Zcw, ↓Zcx, ↓Zcy, ↓Zcz, ↓Zda, ↓Zdb, ↓Zdc, ↓Zdd, ↓Zde, ↓Zdf, ↓Zdg, ↓Zdh, ↓Zdi, ↓Zdj, ↓Zdk, ↓Zdl, ↓Zdm, ↓Zdn, ↓Zdo, ↓Zdp, ↓Zdq, ↓Zdr, ↓Zds, ↓Zdt, ↓Zdu, ↓Zdv, ↓Zdw, ↓Zdx, ↓Zdy, ↓Zdz, ↓Zea, ↓Zeb, ↓Zec, ↓Zed, ↓Zee, ↓Zef, ↓Zeg, ↓Zeh, ↓Zei, ↓Zej, ↓Zek, ↓Zel, ↓Zem, ↓Zen, ↓Zeo, ↓Zep, ↓Zeq, ↓Zer, ↓Zes, ↓Zet, ↓Zeu, ↓Zev, ↓Zew, ↓Zex, ↓Zey, ↓Zez, ↓Zfa, ↓Zfb, ↓Zfc, ↓Zfd, ↓Zfe, ↓Zff, ↓Zfg, ↓Zfh, ↓Zfi, ↓Zfj, ↓Zfk, ↓Zfl, ↓Zfm, ↓Zfn, ↓Zfo, ↓Zfp, ↓Zfq, ↓Zfr, ↓Zfs, ↓Zft, ↓Zfu, ↓Zfv, ↓Zfw, ↓Zfx, ↓Zfy, ↓Zfz, ↓Zga, ↓Zgb, ↓Zgc, ↓Zgd, ↓Zge, ↓Zgf, ↓Zgg, ↓Zgh, ↓Zgi, ↓Zgj, ↓Zgk, ↓Zgl, ↓Zgm, ↓Zgn, ↓Zgo, ↓Zgp, ↓Zgq, ↓Zgr, ↓Zgs, ↓Zgt, ↓Zgu, ↓Zgv, ↓Zgw, ↓Zgx, ↓Zgy, ↓Zgz, ↓Zha, ↓Zhb, ↓Zhc, ↓Zhd, ↓Zhe, ↓Zhf, ↓Zhg, ↓Zhh, ↓Zhi, ↓Zhj, ↓Zhk, ↓Zhl, ↓Zhm, ↓Zhn, ↓Zho, ↓Zhp, ↓Zhq, ↓Zhr, ↓Zhs, ↓Zht, ↓Zhu, ↓Zhv, ↓Zhw, ↓Zhx, ↓Zhy, ↓Zhz, ↓Zia, ↓Zib, ↓Zic, ↓Zid, ↓Zie, ↓Zif, ↓Zig, ↓Zih, ↓Zii, ↓Zij, ↓Zik, reduceIte, if_true, if_false, Bool.false_eq_true, Bool.and_true, Bool.true_and, Bool.and_false, Bool.false_and, Bool.or_true, Bool.true_or, Bool.or_false, Bool.false_or, Int.cast_ofNat_Int, Zil, Zim, beq_self_eq_true, Int.reduceBEq, Int.reduceLT, Int.reduceLE, Int.reduceEq, Int.reduceNeg, Nat.reduceLT, Zin, Zio, Ziq, Zir, Zis, Zit, Ziu, Ziv, Ziw, Zix, Ziy, Ziz, Zja, Zjb, Zjc, Zjd, Zje, Zjf, Zjg, Zjh, Zji, Zjj, Zjk, Zjl, Zjm, Zjn, Zjo, Zjp, Zjq, Zjr, Zjs, Zjt, Zju, Zjv, Zjw, Zjx, Zjy, Zjz, Zka, Zkb, Zkc, Zkd, Zke, Zkf, Zkg, Zkh, Zki, Zkj, Zkk, Zkl, Zkm, Zkn, Zko, Zkp, List.lookup_nil, Zkq, Zkr, Option.map_some, Option.map_none, Option.bind_some, Option.bind_none, List.map_nil, List.map_cons, List.nil_append, List.cons_append, List.append_nil, List.length_cons, List.length_nil, Nat.reduceAdd, Nat.reduceLeDiff, Nat.reduceEqDiff, Nat.reduceBEq, decide_true, decide_false, Bool.not_true, Bool.not_false, Zks, Zkt, Zku, Zkv, Zkw, Zkx, Zky, Zkz, Zla, Zlb, Zlc, Zld, Zle, Zlf, List.getElem?_cons_zero, List.getElem?_cons_succ, Zlg, Zlh, Zli, Zlj, Zlk, Zll, Zlm, Zln, Zlo, Zlp, Zlq, Zlr, Zls, Zlt, Zlu, Zlv, Zlw, Zlx, Zly, setX, Zlz, Zma, Zmb, Int.ofNat_lt, Int.ofNat_le, e1, i_rat 0 1 (by decide) (show Rat.divInt 0 1 = 0 by decide)]
      exact ⟨rfl, rfl, trivial⟩
  · simp -implicitDefEqProofs -dsimp only [↓Zaa, ↓Zab, ↓Zac, ↓Zad, ↓Zae, ↓Zaf, ↓Zag, ↓Zah, ↓Zai, ↓Zaj, ↓Zak, ↓Zal, ↓Zam, ↓Zan, ↓Zao, ↓Zap, ↓Zaq, ↓Zar, ↓Zas, ↓Zat, ↓Zau, ↓Zav, ↓Zaw, ↓Zax, ↓Zay, ↓Zaz, ↓Zba, ↓Zbb, ↓Zbc, ↓Zbd, ↓Zbe, ↓Zbf, ↓Zbg, ↓Zbh, ↓Zbi, ↓Zbj, ↓Zbk, ↓Zbl, ↓Zbm, ↓Zbn, ↓Zbo, ↓Zbp, ↓Zbq, ↓Zbr, ↓Zbs, ↓Zbt, ↓Zbu, ↓Zbv, ↓Zbw, ↓Zbx, ↓Zby, ↓Zbz, ↓Zca, ↓Zcb, ↓Zcc, ↓Zcd, ↓Zce, ↓Zcf, ↓Zcg, ↓Zch, ↓Zci, ↓Zcj, ↓Zck, ↓Zcl, ↓Zcm, ↓Zcn, ↓Zco, ↓Zcp, ↓Zcq, ↓Zcr, ↓Zcs, ↓Zct, ↓Zcu, ↓Zcv, ↓Zcw, ↓Zcx, ↓Zcy, ↓Zcz, ↓Zda, ↓Zdb, ↓Zdc, ↓Zdd, ↓Zde, ↓Zdf, ↓Zdg, ↓Zdh, ↓Zdi, ↓Zdj, ↓Zdk, ↓Zdl, ↓Zdm, ↓Zdn, ↓Zdo, ↓Zdp, ↓Zdq, ↓Zdr, ↓Zds, ↓Zdt, ↓Zdu, ↓Zdv, ↓Zdw, ↓Zdx, ↓Zdy, ↓Zdz, ↓Zea, ↓Zeb, ↓Zec, ↓Zed, ↓Zee, ↓Zef, ↓Zeg, ↓Zeh, ↓Zei, ↓Zej, ↓Zek, ↓Zel, ↓Zem, ↓Zen, ↓Zeo, ↓Zep, ↓Zeq, ↓Zer, ↓Zes, ↓Zet, ↓Zeu, ↓Zev, ↓Zew, ↓Zex, ↓Zey, ↓Zez, ↓Zfa, ↓Zfb, ↓Zfc, ↓Zfd, ↓Zfe, ↓Zff, ↓Zfg, ↓Zfh, ↓Zfi, ↓Zfj, ↓Zfk, ↓Zfl, ↓Zfm, ↓Zfn, ↓Zfo, ↓Zfp, ↓Zfq, ↓Zfr, ↓Zfs, ↓Zft, ↓Zfu, ↓Zfv, ↓Zfw, ↓Zfx, ↓Zfy, ↓Zfz, ↓Zga, ↓Zgb, ↓Zgc, ↓Zgd, ↓Zge, ↓Zgf, ↓Zgg, ↓Zgh, ↓Zgi, ↓Zgj, ↓Zgk, ↓Zgl, ↓Zgm, ↓Zgn, ↓Zgo, ↓Zgp, ↓Zgq, ↓Zgr, ↓Zgs, ↓Zgt, ↓Zgu, ↓Zgv, ↓Zgw, ↓Zgx, ↓Zgy, ↓Zgz, ↓Zha, ↓Zhb, ↓Zhc, ↓Zhd, ↓Zhe, ↓Zhf, ↓Zhg, ↓Zhh, ↓Zhi, ↓Zhj, ↓Zhk, ↓Zhl, ↓Zhm, ↓Zhn, ↓Zho, ↓Zhp, ↓Zhq, ↓Zhr, ↓Zhs, ↓Zht, ↓Zhu, ↓Zhv, ↓Zhw, ↓Zhx, ↓Zhy, ↓Zhz, ↓Zia, ↓Zib, ↓Zic, ↓Zid, ↓Zie, ↓Zif, ↓Zig, ↓Zih, ↓Zii, ↓Zij, ↓Zik, reduceIte, if_true, if_false, Bool.false_eq_true, Bool.and_true, Bool.true_and, Bool.and_false, Bool.false_and, Bool.or_true, Bool.true_or, Bool.or_false, Bool.false_or, Int.cast_ofNat_Int, Zil, Zim, beq_self_eq_true, Int.reduceBEq, Int.reduceLT, Int.reduceLE, Int.reduceEq, Int.reduceNeg, Nat.reduceLT, Zin, Zio, Ziq, Zir, Zis, Zit, Ziu, Ziv, Ziw, Zix, Ziy, Ziz, Zja, Zjb, Zjc, Zjd, Zje, Zjf, Zjg, Zjh, Zji, Zjj, Zjk, Zjl, Zjm, Zjn, Zjo, Zjp, Zjq, Zjr, Zjs, Zjt, Zju, Zjv, Zjw, Zjx, Zjy, Zjz, Zka, Zkb, Zkc, Zkd, Zke, Zkf, Zkg, Zkh, Zki, Zkj, Zkk, Zkl, Zkm, Zkn, Zko, Zkp, List.lookup_nil, Zkq, Zkr, Option.map_some, Option.map_none, Option.bind_some, Option.bind_none, List.map_nil, List.map_cons, List.nil_append, List.cons_append, List.append_nil, List.length_cons, List.length_nil, Nat.reduceAdd, Nat.reduceLeDiff, Nat.reduceEqDiff, Nat.reduceBEq, decide_true, decide_false, Bool.not_true, Bool.not_false, Zks, Zkt, Zku, Zkv, Zkw, Zkx, Zky, Zkz, Zla, Zlb, Zlc, Zld, Zle, Zlf, List.getElem?_cons_zero, List.getElem?_cons_succ, Zlg, Zlh, Zli, Zlj, Zlk, Zll, Zlm, Zln, Zlo, Zlp, Zlq, Zlr, Zls, Zlt, Zlu, Zlv, Zlw, Zlx, Zly, setX, Zlz, Zma, Zmb, Int.ofNat_lt, Int.ofNat_le]
theorem k_elim {n w L K : Nat} {t0 : Nat → Nat → Rat} (hw : w ≤ L) (hL : L ≤ 1000) (hn : n ≤ 1000) (hK : 0 < K) (hs : ∀ i j, i < n → j < L → Sz K (t0 i j)) (l : K * 5 ^ w ≤ 5000000) :
    φ_eliminate [.own true (.l (tbD n L t0)), .val (.int w)] = .ok (.o (.l (pvD (elim n t0 w).pv))) [(0, .l (tbD n L (elim n t0 w).t))] := by
  apply run_eliminate
  unfold g_eliminate
  have hsw := smI_ok (show w ≤ 16777216 by omega)
  have hsn := smI_ok (show n ≤ 16777216 by omega)
  simp -implicitDefEqProofs -dsimp only [↓Zaa, ↓Zab, ↓Zac, ↓Zad, ↓Zae, ↓Zaf, ↓Zag, ↓Zah, ↓Zai, ↓Zaj, ↓Zak, ↓Zal, ↓Zam, ↓Zan, ↓Zao, ↓Zap, ↓Zaq, ↓Zar, ↓Zas, ↓Zat, ↓Zau, ↓Zav, ↓Zaw, ↓Zax, ↓Zay, ↓Zaz, ↓Zba, ↓Zbb, ↓Zbc, ↓Zbd, ↓Zbe, ↓Zbf, ↓Zbg, ↓Zbh, ↓Zbi, ↓Zbj, ↓Zbk, ↓Zbl, ↓Zbm, ↓Zbn, ↓Zbo, ↓Zbp, ↓Zbq, ↓Zbr, ↓Zbs, ↓Zbt, ↓Zbu, ↓Zbv, ↓Zbw, ↓Zbx, ↓Zby, ↓Zbz, ↓Zca, ↓Zcb, ↓Zcc, ↓Zcd, ↓Zce, ↓Zcf, ↓Zcg, ↓Zch, ↓Zci, ↓Zcj, ↓Zck, ↓Zcl, ↓Zcm, ↓Zcn, ↓Zco, ↓Zcp, ↓Zcq, ↓Zcr, ↓Zcs, ↓Zct, ↓Zcu, ↓Zcv, ↓Zcw, ↓Zcx, ↓Zcy, ↓Zcz, ↓Zda, ↓Zdb, ↓Zdc, ↓Zdd, ↓Zde, ↓Zdf, ↓Zdg, ↓Zdh, ↓Zdi, ↓Zdj, ↓Zdk, ↓Zdl, ↓Zdm, ↓Zdn, ↓Zdo, ↓Zdp, ↓Zdq, ↓Zdr, ↓Zds, ↓Zdt, ↓Zdu, ↓Zdv, ↓Zdw, ↓Zdx, ↓Zdy, ↓Zdz, ↓Zea, ↓Zeb, ↓Zec, ↓Zed, ↓Zee, ↓Zef, ↓Zeg, ↓Zeh, ↓Zei, ↓Zej, ↓Zek, ↓Zel, ↓Zem, ↓Zen, ↓Zeo, ↓Zep, ↓Zeq, ↓Zer, ↓Zes, ↓Zet, ↓Zeu, ↓Zev, ↓Zew, ↓Zex, ↓Zey, ↓Zez, ↓Zfa, ↓Zfb, ↓Zfc, ↓Zfd, ↓Zfe, ↓Zff, ↓Zfg, ↓Zfh, ↓Zfi, ↓Zfj, ↓Zfk, ↓Zfl, ↓Zfm, ↓Zfn, ↓Zfo, ↓Zfp, ↓Zfq, ↓Zfr, ↓Zfs, ↓Zft, ↓Zfu, ↓Zfv, ↓Zfw, ↓Zfx, ↓Zfy, ↓Zfz, ↓Zga, ↓Zgb, ↓Zgc, ↓Zgd, ↓Zge, ↓Zgf, ↓Zgg, ↓Zgh, ↓Zgi, ↓Zgj, ↓Zgk, ↓Zgl, ↓Zgm, ↓Zgn, ↓Zgo, ↓Zgp, ↓Zgq, ↓Zgr, ↓Zgs, ↓Zgt, ↓Zgu, ↓Zgv, ↓Zgw, ↓Zgx, ↓Zgy, ↓Zgz, ↓Zha, ↓Zhb, ↓Zhc, ↓Zhd, ↓Zhe, ↓Zhf, ↓Zhg, ↓Zhh, ↓Zhi, ↓Zhj, ↓Zhk, ↓Zhl, ↓Zhm, ↓Zhn, ↓Zho, ↓Zhp, ↓Zhq, ↓Zhr, ↓Zhs, ↓Zht, ↓Zhu, ↓Zhv, ↓Zhw, ↓Zhx, ↓Zhy, ↓Zhz, ↓Zia, ↓Zib, ↓Zic, ↓Zid, ↓Zie, ↓Zif, ↓Zig, ↓Zih, ↓Zii, ↓Zij, ↓Zik, reduceIte, if_true, if_false, Bool.false_eq_true, Bool.and_true, Bool.true_and, Bool.and_false, Bool.false_and, Bool.or_true, Bool.true_or, Bool.or_false, Bool.false_or, Int.cast_ofNat_Int, Zil, Zim, beq_self_eq_true, Int.reduceBEq, Int.reduceLT, Int.reduceLE, Int.reduceEq, Int.reduceNeg, Nat.reduceLT, Zin, Zio, Ziq, Zir, Zis, Zit, Ziu, Ziv, Ziw, Zix, Ziy, Ziz, Zja, Zjb, Zjc, Zjd, Zje, Zjf, Zjg, Zjh, Zji, Zjj, Zjk, Zjl, Zjm, Zjn, Zjo, Zjp, Zjq, Zjr, Zjs, Zjt, Zju, Zjv, Zjw, Zjx, Zjy, Zjz, Zka, Zkb, Zkc, Zkd, Zke, Zkf, Zkg, Zkh, Zki, Zkj, Zkk, Zkl, Zkm, Zkn, Zko, Zkp, List.lookup_nil, Zkq, Zkr, Option.map_some, Option.map_none, Option.bind_some, Option.bind_none, List.map_nil, List.map_cons, List.nil_append, List.cons_append, List.append_nil, List.length_cons, List.length_nil, Nat.reduceAdd, Nat.reduceLeDiff, Nat.reduceEqDiff, Nat.reduceBEq, decide_true, decide_false, Bool.not_true, Bool.not_false, Zks, Zkt, Zku, Zkv, Zkw, Zkx, Zky, Zkz, Zla, Zlb, Zlc, Zld, Zle, Zlf, List.getElem?_cons_zero, List.getElem?_cons_succ, Zlg, Zlh, Zli, Zlj, Zlk, Zll, Zlm, Zln, Zlo, Zlp, Zlq, Zlr, Zls, Zlt, Zlu, Zlv, Zlw, Zlx, Zly, setX, Zlz, Zma, Zmb, Int.ofNat_lt, Int.ofNat_le, hsw]
  refine for_r0 (fun c e => ∃ x3 x4 x5 x7 x8 x10 x11, e = [.own true (.l (tbD n L (elim n t0 c).t)), .val (.int w), .own false (.l (pvD (elim n t0 c).pv)), x3, x4, x5, .un, x7, x8, .un, x10, x11, .un, .un] ∧ Fr1 x3 ∧ Fr1 x4 ∧ Fr1 x5 ∧ Fr1 x7 ∧ Fr1 x8 ∧ Fr1 x10 ∧ Fr1 x11) ?_ ?_ ?_
  · refine ⟨.un, .un, .un, .un, .un, .un, .un, ?_, .un, .un, .un, .un, .un, .un, .un⟩
    show _ = [SV.own true (.l (tbD n L t0)), SV.val (.int w), SV.own false (.l (pvD [])), _, _, _, _, _, _, _, _, _, _, _]
    rw [pv_nil]
  · rintro c e hc ⟨x3, x4, x5, x7, x8, x10, x11, rfl, y3, y4, y5, y7, y8, y10, y11⟩
    have sz := elim_sz hK hs c (by omega)
    have R := elim_red n L t0 c
    have st : elim n t0 (c + 1) = elim1 n (elim n t0 c) c := rfl
    have p4 : K * 5 ^ (c + 1) ≤ K * 5 ^ w := Nat.mul_le_mul_left _ (Nat.pow_le_pow_right (by decide) hc)
    have p5 : K * 5 ^ (c + 1) = K * 5 ^ c * 5 := by rw [Nat.pow_succ, Nat.mul_assoc]
    rw [st]
    generalize elim n t0 c = s at sz R ⊢
    clear st
    generalize K * 5 ^ c = M at sz p5
    have hcL : c < L := by omega
    have hd := R.le
    have hsd := smI_ok (show s.pv.length ≤ 16777216 by omega)
    simp -implicitDefEqProofs -dsimp only [↓Zaa, ↓Zab, ↓Zac, ↓Zad, ↓Zae, ↓Zaf, ↓Zag, ↓Zah, ↓Zai, ↓Zaj, ↓Zak, ↓Zal, ↓Zam, ↓Zan, ↓Zao, ↓Zap, ↓Zaq, ↓Zar, ↓Zas, ↓Zat, ↓Zau, ↓Zav, ↓Zaw, ↓Zax, ↓Zay, ↓Zaz, ↓Zba, ↓Zbb, ↓Zbc, ↓Zbd, ↓Zbe, ↓Zbf, ↓Zbg, ↓Zbh, ↓Zbi, ↓Zbj, ↓Zbk, ↓Zbl, ↓Zbm, ↓Zbn, ↓Zbo, ↓Zbp, ↓Zbq, ↓Zbr, ↓Zbs, ↓Zbt, ↓Zbu, ↓Zbv, ↓Zbw, ↓Zbx, ↓Zby, ↓Zbz, ↓Zca, ↓Zcb, ↓Zcc, ↓Zcd, ↓Zce, ↓Zcf, ↓Zcg, ↓Zch, ↓Zci, ↓Zcj, ↓Zck, ↓Zcl, ↓Zcm, ↓Zcn, ↓Zco, ↓Zcp, ↓Zcq, ↓Zcr, ↓Zcs, ↓Zct, ↓Zcu, ↓Zcv, ↓Zcw, ↓Zcx, ↓Zcy, ↓Zcz, ↓Zda, ↓Zdb, ↓Zdc, ↓Zdd, ↓Zde, ↓Zdf, ↓Zdg, ↓Zdh, ↓Zdi, ↓Zdj, ↓Zdk, ↓Zdl, ↓Zdm, ↓Zdn, ↓Zdo, ↓Zdp, ↓Zdq, ↓Zdr, ↓Zds, ↓Zdt, ↓Zdu, ↓Zdv, ↓Zdw, ↓Zdx, ↓Zdy, ↓Zdz, ↓Zea, ↓Zeb, ↓Zec, ↓Zed, ↓Zee, ↓Zef, ↓Zeg, ↓Zeh, ↓Zei, ↓Zej, ↓Zek, ↓Zel, ↓Zem, ↓Zen, ↓Zeo, ↓Zep, ↓Zeq, ↓Zer, ↓Zes, ↓Zet, ↓Zeu, ↓Zev, ↓Zew, ↓Zex, ↓Zey, ↓Zez, ↓Zfa, ↓Zfb, ↓Zfc, ↓Zfd, ↓Zfe, ↓Zff, ↓Zfg, ↓Zfh, ↓Zfi, ↓Zfj, ↓Zfk, ↓Zfl, ↓Zfm, ↓Zfn, ↓Zfo, ↓Zfp, ↓Zfq, ↓Zfr, ↓Zfs, ↓Zft, ↓Zfu, ↓Zfv, ↓Zfw, ↓Zfx, ↓Zfy, ↓Zfz, ↓Zga, ↓Zgb, ↓Zgc, ↓Zgd, ↓Zge, ↓Zgf, ↓Zgg, ↓Zgh, ↓Zgi, ↓Zgj, ↓Zgk, ↓Zgl, ↓Zgm, ↓Zgn, ↓Zgo, ↓Zgp, ↓Zgq, ↓Zgr, ↓Zgs, ↓Zgt, ↓Zgu, ↓Zgv, ↓Zgw, ↓Zgx, ↓Zgy, ↓Zgz, ↓Zha, ↓Zhb, ↓Zhc, ↓Zhd, ↓Zhe, ↓Zhf, ↓Zhg, ↓Zhh, ↓Zhi, ↓Zhj, ↓Zhk, ↓Zhl, ↓Zhm, ↓Zhn, ↓Zho, ↓Zhp, ↓Zhq, ↓Zhr, ↓Zhs, ↓Zht, ↓Zhu, ↓Zhv, ↓Zhw, ↓Zhx, ↓Zhy, ↓Zhz, ↓Zia, ↓Zib, ↓Zic, ↓Zid, ↓Zie, ↓Zif, ↓Zig, ↓Zih, ↓Zii, ↓Zij, ↓Zik, reduceIte, if_true, if_false, Bool.false_eq_true, Bool.and_true, Bool.true_and, Bool.and_false, Bool.false_and, Bool.or_true, Bool.true_or, Bool.or_false, Bool.false_or, Int.cast_ofNat_Int, Zil, Zim, beq_self_eq_true, Int.reduceBEq, Int.reduceLT, Int.reduceLE, Int.reduceEq, Int.reduceNeg, Nat.reduceLT, Zin, Zio, Ziq, Zir, Zis, Zit, Ziu, Ziv, Ziw, Zix, Ziy, Ziz, Zja, Zjb, Zjc, Zjd, Zje, Zjf, Zjg, Zjh, Zji, Zjj, Zjk, Zjl, Zjm, Zjn, Zjo, Zjp, Zjq, Zjr, Zjs, Zjt, Zju, Zjv, Zjw, Zjx, Zjy, Zjz, Zka, Zkb, Zkc, Zkd, Zke, Zkf, Zkg, Zkh, Zki, Zkj, Zkk, Zkl, Zkm, Zkn, Zko, Zkp, List.lookup_nil, Zkq, Zkr, Option.map_some, Option.map_none, Option.bind_some, Option.bind_none, List.map_nil, List.map_cons, List.nil_append, List.cons_append, List.append_nil, List.length_cons, List.length_nil, Nat.reduceAdd, Nat.reduceLeDiff, Nat.reduceEqDiff, Nat.reduceBEq, decide_true, decide_false, Bool.not_true, Bool.not_false, Zks, Zkt, Zku, Zkv, Zkw, Zkx, Zky, Zkz, Zla, Zlb, Zlc, Zld, Zle, Zlf, List.getElem?_cons_zero, List.getElem?_cons_succ, Zlg, Zlh, Zli, Zlj, Zlk, Zll, Zlm, Zln, Zlo, Zlp, Zlq, Zlr, Zls, Zlt, Zlu, Zlv, Zlw, Zlx, Zly, setX, Zlz, Zma, Zmb, Int.ofNat_lt, Int.ofNat_le, y3, y4, y5, tb_len, pv_len, hsd, hsn]
    rw [pv_len]
    refine lc_find (fun i => decide (s.t i c ≠ 0)) rfl (by simp only [wipeE, List.set_cons_zero, List.set_cons_succ]; rfl) (by omega) (fun i hi1 hi2 => ?_) (fun l hl => ?_)
    · by_cases h : s.t i c = 0
      · have e1 : (!((s.t i c).num == 0)) = false := by rw [num_b]; simp [h]
        have e2 : decide (s.t i c ≠ 0) = false := by simp [h]
        rw [e2]
        simp -implicitDefEqProofs -dsimp only [↓Zaa, ↓Zab, ↓Zac, ↓Zad, ↓Zae, ↓Zaf, ↓Zag, ↓Zah, ↓Zai, ↓Zaj, ↓Zak, ↓Zal, ↓Zam, ↓Zan, ↓Zao, ↓Zap, ↓Zaq, ↓Zar, ↓Zas, ↓Zat, ↓Zau, ↓Zav, ↓Zaw, ↓Zax, ↓Zay, ↓Zaz, ↓Zba, ↓Zbb, ↓Zbc, ↓Zbd, ↓Zbe, ↓Zbf, ↓Zbg, ↓Zbh, ↓Zbi, ↓Zbj, ↓Zbk, ↓Zbl, ↓Zbm, ↓Zbn, ↓Zbo, ↓Zbp, ↓Zbq, ↓Zbr, ↓Zbs, ↓Zbt, ↓Zbu, ↓Zbv, ↓Zbw, ↓Zbx, ↓Zby, ↓Zbz, ↓Zca, ↓Zcb, ↓Zcc, ↓Zcd, ↓Zce, ↓Zcf, ↓Zcg, ↓Zch, ↓Zci, ↓Zcj, ↓Zck, ↓Zcl, ↓Zcm, ↓Zcn, ↓Zco, ↓Zcp, ↓Zcq, ↓Zcr, ↓Zcs, ↓Zct, ↓Zcu, ↓Zcv, ↓Zcw, ↓Zcx, ↓Zcy, ↓Zcz, ↓Zda, ↓Zdb, ↓Zdc, ↓Zdd, ↓Zde, ↓Zdf, ↓Zdg, ↓Zdh, ↓Zdi, ↓Zdj, ↓Zdk, ↓Zdl, ↓Zdm, ↓Zdn, ↓Zdo, ↓Zdp, ↓Zdq, ↓Zdr, ↓Zds, ↓Zdt, ↓Zdu, ↓Zdv, ↓Zdw, ↓Zdx, ↓Zdy, ↓Zdz, ↓Zea, ↓Zeb, ↓Zec, ↓Zed, ↓Zee, ↓Zef, ↓Zeg, ↓Zeh, ↓Zei, ↓Zej, ↓Zek, ↓Zel, ↓Zem, ↓Zen, ↓Zeo, ↓Zep, ↓Zeq, ↓Zer, ↓Zes, ↓Zet, ↓Zeu, ↓Zev, ↓Zew, ↓Zex, ↓Zey, ↓Zez, ↓Zfa, ↓Zfb, ↓Zfc, ↓Zfd, ↓Zfe, ↓Zff, ↓Zfg, ↓Zfh, ↓Zfi, ↓Zfj, ↓Zfk, ↓Zfl, ↓Zfm, ↓Zfn, ↓Zfo, ↓Zfp, ↓Zfq, ↓Zfr, ↓Zfs, ↓Zft, ↓Zfu, ↓Zfv, ↓Zfw, ↓Zfx, ↓Zfy, ↓Zfz, ↓Zga, ↓Zgb, ↓Zgc, ↓Zgd, ↓Zge, ↓Zgf, ↓Zgg, ↓Zgh, ↓Zgi, ↓Zgj, ↓Zgk, ↓Zgl, ↓Zgm, ↓Zgn, ↓Zgo, ↓Zgp, ↓Zgq, ↓Zgr, ↓Zgs, ↓Zgt, ↓Zgu, ↓Zgv, ↓Zgw, ↓Zgx, ↓Zgy, ↓Zgz, ↓Zha, ↓Zhb, ↓Zhc, ↓Zhd, ↓Zhe, ↓Zhf, ↓Zhg, ↓Zhh, ↓Zhi, ↓Zhj, ↓Zhk, ↓Zhl, ↓Zhm, ↓Zhn, ↓Zho, ↓Zhp, ↓Zhq, ↓Zhr, ↓Zhs, ↓Zht, ↓Zhu, ↓Zhv, ↓Zhw, ↓Zhx, ↓Zhy, ↓Zhz, ↓Zia, ↓Zib, ↓Zic, ↓Zid, ↓Zie, ↓Zif, ↓Zig, ↓Zih, ↓Zii, ↓Zij, ↓Zik, reduceIte, if_true, if_false, Bool.false_eq_true, Bool.and_true, Bool.true_and, Bool.and_false, Bool.false_and, Bool.or_true, Bool.true_or, Bool.or_false, Bool.false_or, Int.cast_ofNat_Int, Zil, Zim, beq_self_eq_true, Int.reduceBEq, Int.reduceLT, Int.reduceLE, Int.reduceEq, Int.reduceNeg, Nat.reduceLT, Zin, Zio, Ziq, Zir, Zis, Zit, Ziu, Ziv, Ziw, Zix, Ziy, Ziz, Zja, Zjb, Zjc, Zjd, Zje, Zjf, Zjg, Zjh, Zji, Zjj, Zjk, Zjl, Zjm, Zjn, Zjo, Zjp, Zjq, Zjr, Zjs, Zjt, Zju, Zjv, Zjw, Zjx, Zjy, Zjz, Zka, Zkb, Zkc, Zkd, Zke, Zkf, Zkg, Zkh, Zki, Zkj, Zkk, Zkl, Zkm, Zkn, Zko, Zkp, List.lookup_nil, Zkq, Zkr, Option.map_some, Option.map_none, Option.bind_some, Option.bind_none, List.map_nil, List.map_cons, List.nil_append, List.cons_append, List.append_nil, List.length_cons, List.length_nil, Nat.reduceAdd, Nat.reduceLeDiff, Nat.reduceEqDiff, Nat.reduceBEq, decide_true, decide_false, Bool.not_true, Bool.not_false, Zks, Zkt, Zku, Zkv, Zkw, Zkx, Zky, Zkz, Zla, Zlb, Zlc, Zld, Zle, Zlf, List.getElem?_cons_zero, List.getElem?_cons_succ, Zlg, Zlh, Zli, Zlj, Zlk, Zll, Zlm, Zln, Zlo, Zlp, Zlq, Zlr, Zls, Zlt, Zlu, Zlv, Zlw, Zlx, Zly, setX, Zlz, Zma, Zmb, Int.ofNat_lt, Int.ofNat_le, tb_at hi2, vec_atI hcL, e1]
        exact ⟨rfl, rfl, trivial⟩
      · have e1 : (!((s.t i c).num == 0)) = true := by rw [num_b]; simp [h]
        have e2 : decide (s.t i c ≠ 0) = true := by simp [h]
        rw [e2]
        simp -implicitDefEqProofs -dsimp only [↓Zaa, ↓Zab, ↓Zac, ↓Zad, ↓Zae, ↓Zaf, ↓Zag, ↓Zah, ↓Zai, ↓Zaj, ↓Zak, ↓Zal, ↓Zam, ↓Zan, ↓Zao, ↓Zap, ↓Zaq, ↓Zar, ↓Zas, ↓Zat, ↓Zau, ↓Zav, ↓Zaw, ↓Zax, ↓Zay, ↓Zaz, ↓Zba, ↓Zbb, ↓Zbc, ↓Zbd, ↓Zbe, ↓Zbf, ↓Zbg, ↓Zbh, ↓Zbi, ↓Zbj, ↓Zbk, ↓Zbl, ↓Zbm, ↓Zbn, ↓Zbo, ↓Zbp, ↓Zbq, ↓Zbr, ↓Zbs, ↓Zbt, ↓Zbu, ↓Zbv, ↓Zbw, ↓Zbx, ↓Zby, ↓Zbz, ↓Zca, ↓Zcb, ↓Zcc, ↓Zcd, ↓Zce, ↓Zcf, ↓Zcg, ↓Zch, ↓Zci, ↓Zcj, ↓Zck, ↓Zcl, ↓Zcm, ↓Zcn, ↓Zco, ↓Zcp, ↓Zcq, ↓Zcr, ↓Zcs, ↓Zct, ↓Zcu, ↓Zcv, ↓Zcw, ↓Zcx, ↓Zcy, ↓Zcz, ↓Zda, ↓Zdb, ↓Zdc, ↓Zdd, ↓Zde, ↓Zdf, ↓Zdg, ↓Zdh, ↓Zdi, ↓Zdj, ↓Zdk, ↓Zdl, ↓Zdm, ↓Zdn, ↓Zdo, ↓Zdp, ↓Zdq, ↓Zdr, ↓Zds, ↓Zdt, ↓Zdu, ↓Zdv, ↓Zdw, ↓Zdx, ↓Zdy, ↓Zdz, ↓Zea, ↓Zeb, ↓Zec, ↓Zed, ↓Zee, ↓Zef, ↓Zeg, ↓Zeh, ↓Zei, ↓Zej, ↓Zek, ↓Zel, ↓Zem, ↓Zen, ↓Zeo, ↓Zep, ↓Zeq, ↓Zer, ↓Zes, ↓Zet, ↓Zeu, ↓Zev, ↓Zew, ↓Zex, ↓Zey, ↓Zez, ↓Zfa, ↓Zfb, ↓Zfc, ↓Zfd, ↓Zfe, ↓Zff, ↓Zfg, ↓Zfh, ↓Zfi, ↓Zfj, ↓Zfk, ↓Zfl, ↓Zfm, ↓Zfn, ↓Zfo, ↓Zfp, ↓Zfq, ↓Zfr, ↓Zfs, ↓Zft, ↓Zfu, ↓Zfv, ↓Zfw, ↓Zfx, ↓Zfy, ↓Zfz, ↓Zga, ↓Zgb, ↓Zgc, ↓Zgd, ↓Zge, ↓Zgf, ↓Zgg, ↓Zgh, ↓Zgi, ↓Zgj, ↓Zgk, ↓Zgl, ↓Zgm, ↓Zgn, ↓Zgo, ↓Zgp, ↓Zgq, ↓Zgr, ↓Zgs, ↓Zgt, ↓Zgu, ↓Zgv, ↓Zgw, ↓Zgx, ↓Zgy, ↓Zgz, ↓Zha, ↓Zhb, ↓Zhc, ↓Zhd, ↓Zhe, ↓Zhf, ↓Zhg, ↓Zhh, ↓Zhi, ↓Zhj, ↓Zhk, ↓Zhl, ↓Zhm, ↓Zhn, ↓Zho, ↓Zhp, ↓Zhq, ↓Zhr, ↓Zhs, ↓Zht, ↓Zhu, ↓Zhv, ↓Zhw, ↓Zhx, ↓Zhy, ↓Zhz, ↓Zia, ↓Zib, ↓Zic, ↓Zid, ↓Zie, ↓Zif, ↓Zig, ↓Zih, ↓Zii, ↓Zij, ↓Zik, reduceIte, if_true, if_false, Bool.false_eq_true, Bool.and_true, Bool.true_and, Bool.and_false, Bool.false_and, Bool.or_true, Bool.true_or, Bool.or_false, Bool.false_or, Int.cast_ofNat_Int, Zil, Zim, beq_self_eq_true, Int.reduceBEq, Int.reduceLT, Int.reduceLE, Int.reduceEq, Int.reduceNeg, Nat.reduceLT, Zin, Zio, Ziq, Zir, Zis, Zit, Ziu, Ziv, Ziw, Zix, Ziy, Ziz, Zja, Zjb, Zjc, Zjd, Zje, Zjf, Zjg, Zjh, Zji, Zjj, Zjk, Zjl, Zjm, Zjn, Zjo, Zjp, Zjq, Zjr, Zjs, Zjt, Zju, Zjv, Zjw, Zjx, Zjy, Zjz, Zka, Zkb, Zkc, Zkd, Zke, Zkf, Zkg, Zkh, Zki, Zkj, Zkk, Zkl, Zkm, Zkn, Zko, Zkp, List.lookup_nil, Zkq, Zkr, Option.map_some, Option.map_none, Option.bind_some, Option.bind_none, List.map_nil, List.map_cons, List.nil_append, List.cons_append, List.append_nil, List.length_cons, List.length_nil, Nat.reduceAdd, Nat.reduceLeDiff, Nat.reduceEqDiff, Nat.reduceBEq, decide_true, decide_false, Bool.not_true, Bool.not_false, Zks, Zkt, Zku, Zkv, Zkw, Zkx, Zky, Zkz, Zla, Zlb, Zlc, Zld, Zle, Zlf, List.getElem?_cons_zero, List.getElem?_cons_succ, Zlg, Zlh, Zli, Zlj, Zlk, Zll, Zlm, Zln, Zlo, Zlp, Zlq, Zlr, Zls, Zlt, Zlu, Zlv, Zlw, Zlx, Zly, setX, Zlz, Zma, Zmb, Int.ofNat_lt, Int.ofNat_le, tb_at hi2, vec_atI hcL, e1]
        exact ⟨rfl, rfl, trivial⟩
    · have hf := firstR_l hl
      unfold elim1
      rw [hf]
      cases l with
      | nil =>
        simp -implicitDefEqProofs -dsimp only [↓Zaa, ↓Zab, ↓Zac, ↓Zad, ↓Zae, ↓Zaf, ↓Zag, ↓Zah, ↓Zai, ↓Zaj, ↓Zak, ↓Zal, ↓Zam, ↓Zan, ↓Zao, ↓Zap, ↓Zaq, ↓Zar, ↓Zas, ↓Zat, ↓Zau, ↓Zav, ↓Zaw, ↓Zax, ↓Zay, ↓Zaz, ↓Zba, ↓Zbb, ↓Zbc, ↓Zbd, ↓Zbe, ↓Zbf, ↓Zbg, ↓Zbh, ↓Zbi, ↓Zbj, ↓Zbk, ↓Zbl, ↓Zbm, ↓Zbn, ↓Zbo, ↓Zbp, ↓Zbq, ↓Zbr, ↓Zbs, ↓Zbt, ↓Zbu, ↓Zbv, ↓Zbw, ↓Zbx, ↓Zby, ↓Zbz, ↓Zca, ↓Zcb, ↓Zcc, ↓Zcd, ↓Zce, ↓Zcf, ↓Zcg, ↓Zch, ↓Zci, ↓Zcj, ↓Zck, ↓Zcl, ↓Zcm, ↓Zcn, ↓Zco, ↓Zcp, ↓Zcq, ↓Zcr, ↓Zcs, ↓Zct, ↓Zcu, ↓Zcv, ↓Zcw, ↓Zcx, ↓Zcy, ↓Zcz, ↓Zda, ↓Zdb, ↓Zdc, ↓Zdd, ↓Zde, ↓Zdf, ↓Zdg, ↓Zdh, ↓Zdi, ↓Zdj, ↓Zdk, ↓Zdl, ↓Zdm, ↓Zdn, ↓Zdo, ↓Zdp, ↓Zdq, ↓Zdr, ↓Zds, ↓Zdt, ↓Zdu, ↓Zdv, ↓Zdw, ↓Zdx, ↓Zdy, ↓Zdz, ↓Zea, ↓Zeb, ↓Zec, ↓Zed, ↓Zee, ↓Zef, ↓Zeg, ↓Zeh, ↓Zei, ↓Zej, ↓Zek, ↓Zel, ↓Zem, ↓Zen, ↓Zeo, ↓Zep, ↓Zeq, ↓Zer, ↓Zes, ↓Zet, ↓Zeu, ↓Zev, ↓Zew, ↓Zex, ↓Zey, ↓Zez, ↓Zfa, ↓Zfb, ↓Zfc, ↓Zfd, ↓Zfe, ↓Zff, ↓Zfg, ↓Zfh, ↓Zfi, ↓Zfj, ↓Zfk, ↓Zfl, ↓Zfm, ↓Zfn, ↓Zfo, ↓Zfp, ↓Zfq, ↓Zfr, ↓Zfs, ↓Zft, ↓Zfu, ↓Zfv, ↓Zfw, ↓Zfx, ↓Zfy, ↓Zfz, ↓Zga, ↓Zgb, ↓Zgc, ↓Zgd, ↓Zge, ↓Zgf, ↓Zgg, ↓Zgh, ↓Zgi, ↓Zgj, ↓Zgk, ↓Zgl, ↓Zgm, ↓Zgn, ↓Zgo, ↓Zgp, ↓Zgq, ↓Zgr, ↓Zgs, ↓Zgt, ↓Zgu, ↓Zgv, ↓Zgw, ↓Zgx, ↓Zgy, ↓Zgz, ↓Zha, ↓Zhb, ↓Zhc, ↓Zhd, ↓Zhe, ↓Zhf, ↓Zhg, ↓Zhh, ↓Zhi, ↓Zhj, ↓Zhk, ↓Zhl, ↓Zhm, ↓Zhn, ↓Zho, ↓Zhp, ↓Zhq, ↓Zhr, ↓Zhs, ↓Zht, ↓Zhu, ↓Zhv, ↓Zhw, ↓Zhx, ↓Zhy, ↓Zhz, ↓Zia, ↓Zib, ↓Zic, ↓Zid, ↓Zie, ↓Zif, ↓Zig, ↓Zih, ↓Zii, ↓Zij, ↓Zik, reduceIte, if_true, if_false, Bool.false_eq_true, Bool.and_true, Bool.true_and, Bool.and_false, Bool.false_and, Bool.or_true, Bool.true_or, Bool.or_false, Bool.false_or, Int.cast_ofNat_Int, Zil, Zim, beq_self_eq_true, Int.reduceBEq, Int.reduceLT, Int.reduceLE, Int.reduceEq, Int.reduceNeg, Nat.reduceLT, Zin, Zio, Ziq, Zir, Zis, Zit, Ziu, Ziv, Ziw, Zix, Ziy, Ziz, Zja, Zjb, Zjc, Zjd, Zje, Zjf, Zjg, Zjh, Zji, Zjj, Zjk, Zjl, Zjm, Zjn, Zjo, Zjp, Zjq, Zjr, Zjs, Zjt, Zju, Zjv, Zjw, Zjx, Zjy, Zjz, Zka, Zkb, Zkc, Zkd, Zke, Zkf, Zkg, Zkh, Zki, Zkj, Zkk, Zkl, Zkm, Zkn, Zko, Zkp, List.lookup_nil, Zkq, Zkr, Option.map_some, Option.map_none, Option.bind_some, Option.bind_none, List.map_nil, List.map_cons, List.nil_append, List.cons_append, List.append_nil, List.length_cons, List.length_nil, Nat.reduceAdd, Nat.reduceLeDiff, Nat.reduceEqDiff, Nat.reduceBEq, decide_true, decide_false, Bool.not_true, Bool.not_false, Zks, Zkt, Zku, Zkv, Zkw, Zkx, Zky, Zkz, Zla, Zlb, Zlc, Zld, Zle, Zlf, List.getElem?_cons_zero, List.getElem?_cons_succ, Zlg, Zlh, Zli, Zlj, Zlk, Zll, Zlm, Zln, Zlo, Zlp, Zlq, Zlr, Zls, Zlt, Zlu, Zlv, Zlw, Zlx, Zly, setX, Zlz, Zma, Zmb, Int.ofNat_lt, Int.ofNat_le, y5]
        exact ⟨_, _, _, _, _, _, _, rfl, .val, .val, .val, y7, y8, y10, y11⟩
      | cons p rest =>
        obtain ⟨h1, h2, h3⟩ := firstR_some hf
        have hdn : s.pv.length < n := by omega
        rw [List.map_cons]
        generalize rest.map (fun (i : Nat) => D.int (i : Int)) = rs
        have e0 : (((rs.length + 1 : Nat) : Int) == 0) = false := by simp; omega
        have pn : p < n := h2
        let r : Nat → Rat := fun j => (s.t p c)⁻¹ * s.t p j
        let t1 : Nat → Nat → Rat := fun i => if i = s.pv.length then r else if i = p then s.t s.pv.length else s.t i
        have sr : ∀ j, j < L → Sz (M + M) (r j) := fun j hj => ((sz p c h2 hcL).inv h3).mul (sz p j h2 hj)
        have srw : ∀ i j, i < n → j < L → Sz M ((if i = p then s.t s.pv.length else s.t i) j) := fun i j hi hj => by
          split
          · exact sz _ j hdn hj
          · exact sz i j hi hj
        simp -implicitDefEqProofs -dsimp only [↓Zaa, ↓Zab, ↓Zac, ↓Zad, ↓Zae, ↓Zaf, ↓Zag, ↓Zah, ↓Zai, ↓Zaj, ↓Zak, ↓Zal, ↓Zam, ↓Zan, ↓Zao, ↓Zap, ↓Zaq, ↓Zar, ↓Zas, ↓Zat, ↓Zau, ↓Zav, ↓Zaw, ↓Zax, ↓Zay, ↓Zaz, ↓Zba, ↓Zbb, ↓Zbc, ↓Zbd, ↓Zbe, ↓Zbf, ↓Zbg, ↓Zbh, ↓Zbi, ↓Zbj, ↓Zbk, ↓Zbl, ↓Zbm, ↓Zbn, ↓Zbo, ↓Zbp, ↓Zbq, ↓Zbr, ↓Zbs, ↓Zbt, ↓Zbu, ↓Zbv, ↓Zbw, ↓Zbx, ↓Zby, ↓Zbz, ↓Zca, ↓Zcb, ↓Zcc, ↓Zcd, ↓Zce, ↓Zcf, ↓Zcg, ↓Zch, ↓Zci, ↓Zcj, ↓Zck, ↓Zcl, ↓Zcm, ↓Zcn, ↓Zco, ↓Zcp, ↓Zcq, ↓Zcr, ↓Zcs, ↓Zct, ↓Zcu, ↓Zcv, ↓Zcw, ↓Zcx, ↓Zcy, ↓Zcz, ↓Zda, ↓Zdb, ↓Zdc, ↓Zdd, ↓Zde, ↓Zdf, ↓Zdg, ↓Zdh, ↓Zdi, ↓Zdj, ↓Zdk, ↓Zdl, ↓Zdm, ↓Zdn, ↓Zdo, ↓Zdp, ↓Zdq, ↓Zdr, ↓Zds, ↓Zdt, ↓Zdu, ↓Zdv, ↓Zdw, ↓Zdx, ↓Zdy, ↓Zdz, ↓Zea, ↓Zeb, ↓Zec, ↓Zed, ↓Zee, ↓Zef, ↓Zeg, ↓Zeh, ↓Zei, ↓Zej, ↓Zek, ↓Zel, ↓Zem, ↓Zen, ↓Zeo, ↓Zep, ↓Zeq, ↓Zer, ↓Zes, ↓Zet, ↓Zeu, ↓Zev, ↓Zew, ↓Zex, ↓Zey, ↓Zez, ↓Zfa, ↓Zfb, ↓Zfc, ↓Zfd, ↓Zfe, ↓Zff, ↓Zfg, ↓Zfh, ↓Zfi, ↓Zfj, ↓Zfk, ↓Zfl, ↓Zfm, ↓Zfn, ↓Zfo, ↓Zfp, ↓Zfq, ↓Zfr, ↓Zfs, ↓Zft, ↓Zfu, ↓Zfv, ↓Zfw, ↓Zfx, ↓Zfy, ↓Zfz, ↓Zga, ↓Zgb, ↓Zgc, ↓Zgd, ↓Zge, ↓Zgf, ↓Zgg, ↓Zgh, ↓Zgi, ↓Zgj, ↓Zgk, ↓Zgl, ↓Zgm, ↓Zgn, ↓Zgo, ↓Zgp, ↓Zgq, ↓Zgr, ↓Zgs, ↓Zgt, ↓Zgu, ↓Zgv, ↓Zgw, ↓Zgx, ↓Zgy, ↓Zgz, ↓Zha, ↓Zhb, ↓Zhc, ↓Zhd, ↓Zhe, ↓Zhf, ↓Zhg, ↓Zhh, ↓Zhi, ↓Zhj, ↓Zhk, ↓Zhl, ↓Zhm, ↓Zhn, ↓Zho, ↓Zhp, ↓Zhq, ↓Zhr, ↓Zhs, ↓Zht, ↓Zhu, ↓Zhv, ↓Zhw, ↓Zhx, ↓Zhy, ↓Zhz, ↓Zia, ↓Zib, ↓Zic, ↓Zid, ↓Zie, ↓Zif, ↓Zig, ↓Zih, ↓Zii, ↓Zij, ↓Zik, reduceIte, if_true, if_false, Bool.false_eq_true, Bool.and_true, Bool.true_and, Bool.and_false, Bool.false_and, Bool.or_true, Bool.true_or, Bool.or_false, Bool.false_or, Int.cast_ofNat_Int, Zil, Zim, beq_self_eq_true, Int.reduceBEq, Int.reduceLT, Int.reduceLE, Int.reduceEq, Int.reduceNeg, Nat.reduceLT, Zin, Zio, Ziq, Zir, Zis, Zit, Ziu, Ziv, Ziw, Zix, Ziy, Ziz, Zja, Zjb, Zjc, Zjd, Zje, Zjf, Zjg, Zjh, Zji, Zjj, Zjk, Zjl, Zjm, Zjn, Zjo, Zjp, Zjq, Zjr, Zjs, Zjt, Zju, Zjv, Zjw, Zjx, Zjy, Zjz, Zka, Zkb, Zkc, Zkd, Zke, Zkf, Zkg, Zkh, Zki, Zkj, Zkk, Zkl, Zkm, Zkn, Zko, Zkp, List.lookup_nil, Zkq, Zkr, Option.map_some, Option.map_none, Option.bind_some, Option.bind_none, List.map_nil, List.map_cons, List.nil_append, List.cons_append, List.append_nil, List.length_cons, List.length_nil, Nat.reduceAdd, Nat.reduceLeDiff, Nat.reduceEqDiff, Nat.reduceBEq, decide_true, decide_false, Bool.not_true, Bool.not_false, Zks, Zkt, Zku, Zkv, Zkw, Zkx, Zky, Zkz, Zla, Zlb, Zlc, Zld, Zle, Zlf, List.getElem?_cons_zero, List.getElem?_cons_succ, Zlg, Zlh, Zli, Zlj, Zlk, Zll, Zlm, Zln, Zlo, Zlp, Zlq, Zlr, Zls, Zlt, Zlu, Zlv, Zlw, Zlx, Zly, setX, Zlz, Zma, Zmb, Int.ofNat_lt, Int.ofNat_le, y5, y7, y8, y10, y11, e0, tb_at h2, tb_at hdn, vec_atI hcL, tb_len, ixN_nat h2, m_inv h3, tb_set]
        refine lc_vec (fun j => rD (r j)) rfl (by simp only [wipeE, List.set_cons_zero, List.set_cons_succ]; rfl) (by omega) (fun j hj => ?_) ?_
        · have e1 : ((s.t p j).num == 0) = decide (s.t p j = 0) := num_b _
          simp -implicitDefEqProofs -dsimp only [↓Zaa, ↓Zab, ↓Zac, ↓Zad, ↓Zae, ↓Zaf, ↓Zag, ↓Zah, ↓Zai, ↓Zaj, ↓Zak, ↓Zal, ↓Zam, ↓Zan, ↓Zao, ↓Zap, ↓Zaq, ↓Zar, ↓Zas, ↓Zat, ↓Zau, ↓Zav, ↓Zaw, ↓Zax, ↓Zay, ↓Zaz, ↓Zba, ↓Zbb, ↓Zbc, ↓Zbd, ↓Zbe, ↓Zbf, ↓Zbg, ↓Zbh, ↓Zbi, ↓Zbj, ↓Zbk, ↓Zbl, ↓Zbm, ↓Zbn, ↓Zbo, ↓Zbp, ↓Zbq, ↓Zbr, ↓Zbs, ↓Zbt, ↓Zbu, ↓Zbv, ↓Zbw, ↓Zbx, ↓Zby, ↓Zbz, ↓Zca, ↓Zcb, ↓Zcc, ↓Zcd, ↓Zce, ↓Zcf, ↓Zcg, ↓Zch, ↓Zci, ↓Zcj, ↓Zck, ↓Zcl, ↓Zcm, ↓Zcn, ↓Zco, ↓Zcp, ↓Zcq, ↓Zcr, ↓Zcs, ↓Zct, ↓Zcu, ↓Zcv, ↓Zcw, ↓Zcx, ↓Zcy, ↓Zcz, ↓Zda, ↓Zdb, ↓Zdc, ↓Zdd, ↓Zde, ↓Zdf, ↓Zdg, ↓Zdh, ↓Zdi, ↓Zdj, ↓Zdk, ↓Zdl, ↓Zdm, ↓Zdn, ↓Zdo, ↓Zdp, ↓Zdq, ↓Zdr, ↓Zds, ↓Zdt, ↓Zdu, ↓Zdv, ↓Zdw, ↓Zdx, ↓Zdy, ↓Zdz, ↓Zea, ↓Zeb, ↓Zec, ↓Zed, ↓Zee, ↓Zef, ↓Zeg, ↓Zeh, ↓Zei, ↓Zej, ↓Zek, ↓Zel, ↓Zem, ↓Zen, ↓Zeo, ↓Zep, ↓Zeq, ↓Zer, ↓Zes, ↓Zet, ↓Zeu, ↓Zev, ↓Zew, ↓Zex, ↓Zey, ↓Zez, ↓Zfa, ↓Zfb, ↓Zfc, ↓Zfd, ↓Zfe, ↓Zff, ↓Zfg, ↓Zfh, ↓Zfi, ↓Zfj, ↓Zfk, ↓Zfl, ↓Zfm, ↓Zfn, ↓Zfo, ↓Zfp, ↓Zfq, ↓Zfr, ↓Zfs, ↓Zft, ↓Zfu, ↓Zfv, ↓Zfw, ↓Zfx, ↓Zfy, ↓Zfz, ↓Zga, ↓Zgb, ↓Zgc, ↓Zgd, ↓Zge, ↓Zgf, ↓Zgg, ↓Zgh, ↓Zgi, ↓Zgj, ↓Zgk, ↓Zgl, ↓Zgm, ↓Zgn, ↓Zgo, ↓Zgp, ↓Zgq, ↓Zgr, ↓Zgs, ↓Zgt, ↓Zgu, ↓Zgv, ↓Zgw, ↓Zgx, ↓Zgy, ↓Zgz, ↓Zha, ↓Zhb, ↓Zhc, ↓Zhd, ↓Zhe, ↓Zhf, ↓Zhg, ↓Zhh, ↓Zhi, ↓Zhj, ↓Zhk, ↓Zhl, ↓Zhm, ↓Zhn, ↓Zho, ↓Zhp, ↓Zhq, ↓Zhr, ↓Zhs, ↓Zht, ↓Zhu, ↓Zhv, ↓Zhw, ↓Zhx, ↓Zhy, ↓Zhz, ↓Zia, ↓Zib, ↓Zic, ↓Zid, ↓Zie, ↓Zif, ↓Zig, ↓Zih, ↓Zii, ↓Zij, ↓Zik, reduceIte, if_true, if_false, Bool.false_eq_true, Bool.and_true, Bool.true_and, Bool.and_false, Bool.false_and, Bool.or_true, Bool.true_or, Bool.or_false, Bool.false_or, Int.cast_ofNat_Int, Zil, Zim, beq_self_eq_true, Int.reduceBEq, Int.reduceLT, Int.reduceLE, Int.reduceEq, Int.reduceNeg, Nat.reduceLT, Zin, Zio, Ziq, Zir, Zis, Zit, Ziu, Ziv, Ziw, Zix, Ziy, Ziz, Zja, Zjb, Zjc, Zjd, Zje, Zjf, Zjg, Zjh, Zji, Zjj, Zjk, Zjl, Zjm, Zjn, Zjo, Zjp, Zjq, Zjr, Zjs, Zjt, Zju, Zjv, Zjw, Zjx, Zjy, Zjz, Zka, Zkb, Zkc, Zkd, Zke, Zkf, Zkg, Zkh, Zki, Zkj, Zkk, Zkl, Zkm, Zkn, Zko, Zkp, List.lookup_nil, Zkq, Zkr, Option.map_some, Option.map_none, Option.bind_some, Option.bind_none, List.map_nil, List.map_cons, List.nil_append, List.cons_append, List.append_nil, List.length_cons, List.length_nil, Nat.reduceAdd, Nat.reduceLeDiff, Nat.reduceEqDiff, Nat.reduceBEq, decide_true, decide_false, Bool.not_true, Bool.not_false, Zks, Zkt, Zku, Zkv, Zkw, Zkx, Zky, Zkz, Zla, Zlb, Zlc, Zld, Zle, Zlf, List.getElem?_cons_zero, List.getElem?_cons_succ, Zlg, Zlh, Zli, Zlj, Zlk, Zll, Zlm, Zln, Zlo, Zlp, Zlq, Zlr, Zls, Zlt, Zlu, Zlv, Zlw, Zlx, Zly, setX, Zlz, Zma, Zmb, Int.ofNat_lt, Int.ofNat_le, e1]
          refine iteK_dec (fun h => ?_) (fun h => ?_)
          · simp -implicitDefEqProofs -dsimp only [↓Zaa, ↓Zab, ↓Zac, ↓Zad, ↓Zae, ↓Zaf, ↓Zag, ↓Zah, ↓Zai, ↓Zaj, ↓Zak, ↓Zal, ↓Zam, ↓Zan, ↓Zao, ↓Zap, ↓Zaq, ↓Zar, ↓Zas, ↓Zat, ↓Zau, ↓Zav, ↓Zaw, ↓Zax, ↓Zay, ↓Zaz, ↓Zba, ↓Zbb, ↓Zbc, ↓Zbd, ↓Zbe, ↓Zbf, ↓Zbg, ↓Zbh, ↓Zbi, ↓Zbj, ↓Zbk, ↓Zbl, ↓Zbm, ↓Zbn, ↓Zbo, ↓Zbp, ↓Zbq, ↓Zbr, ↓Zbs, ↓Zbt, ↓Zbu, ↓Zbv, ↓Zbw, ↓Zbx, ↓Zby, ↓Zbz, ↓Zca, ↓Zcb, ↓Zcc, ↓Zcd, ↓Zce, ↓Zcf, ↓Zcg, ↓Zch, ↓Zci, ↓Zcj, ↓Zck, ↓Zcl, ↓Zcm, ↓Zcn, ↓Zco, ↓Zcp, ↓Zcq, ↓Zcr, ↓Zcs, ↓Zct, ↓Zcu, ↓Zcv, ↓Zcw, ↓Zcx, ↓Zcy, ↓Zcz, ↓Zda, ↓Zdb, ↓Zdc, ↓Zdd, ↓Zde, ↓Zdf, ↓Zdg, ↓Zdh, ↓Zdi, ↓Zdj, ↓Zdk, ↓Zdl, ↓Zdm, ↓Zdn, ↓Zdo, ↓Zdp, ↓Zdq, ↓Zdr, ↓Zds, ↓Zdt, ↓Zdu, ↓Zdv, ↓Zdw, ↓Zdx, ↓Zdy, ↓Zdz, ↓Zea, ↓Zeb, ↓Zec, ↓Zed, ↓Zee, ↓Zef, ↓Zeg, ↓Zeh, ↓Zei, ↓Zej, ↓Zek, ↓Zel, ↓Zem, ↓Zen, ↓Zeo, ↓Zep, ↓Zeq, ↓Zer, ↓Zes, ↓Zet, ↓Zeu, ↓Zev, ↓Zew, ↓Zex, ↓Zey, ↓Zez, ↓Zfa, ↓Zfb, ↓Zfc, ↓Zfd, ↓Zfe, ↓Zff, ↓Zfg, ↓Zfh, ↓Zfi, ↓Zfj, ↓Zfk, ↓Zfl, ↓Zfm, ↓Zfn, ↓Zfo, ↓Zfp, ↓Zfq, ↓Zfr, ↓Zfs, ↓Zft, ↓Zfu, ↓Zfv, ↓Zfw, ↓Zfx, ↓Zfy, ↓Zfz, ↓Zga, ↓Zgb, ↓Zgc, ↓Zgd, ↓Zge, ↓Zgf, ↓Zgg, ↓Zgh, ↓Zgi, ↓Zgj, ↓Zgk, ↓Zgl, ↓Zgm, ↓Zgn, ↓Zgo, ↓Zgp, ↓Zgq, ↓Zgr, ↓Zgs, ↓Zgt, ↓Zgu, ↓Zgv, ↓Zgw, ↓Zgx, ↓Zgy, ↓Zgz, ↓Zha, ↓Zhb, ↓Zhc, ↓Zhd, ↓Zhe, ↓Zhf, ↓Zhg, ↓Zhh, ↓Zhi, ↓Zhj, ↓Zhk, ↓Zhl, ↓Zhm, ↓Zhn, ↓Zho, ↓Zhp, ↓Zhq, ↓Zhr, ↓Zhs, ↓Zht, ↓Zhu, ↓Zhv, ↓Zhw, ↓Zhx, ↓Zhy, ↓Zhz, ↓Zia, ↓Zib, ↓Zic, ↓Zid, ↓Zie, ↓Zif, ↓Zig, ↓Zih, ↓Zii, ↓Zij, ↓Zik, reduceIte, if_true, if_false, Bool.false_eq_true, Bool.and_true, Bool.true_and, Bool.and_false, Bool.false_and, Bool.or_true, Bool.true_or, Bool.or_false, Bool.false_or, Int.cast_ofNat_Int, Zil, Zim, beq_self_eq_true, Int.reduceBEq, Int.reduceLT, Int.reduceLE, Int.reduceEq, Int.reduceNeg, Nat.reduceLT, Zin, Zio, Ziq, Zir, Zis, Zit, Ziu, Ziv, Ziw, Zix, Ziy, Ziz, Zja, Zjb, Zjc, Zjd, Zje, Zjf, Zjg, Zjh, Zji, Zjj, Zjk, Zjl, Zjm, Zjn, Zjo, Zjp, Zjq, Zjr, Zjs, Zjt, Zju, Zjv, Zjw, Zjx, Zjy, Zjz, Zka, Zkb, Zkc, Zkd, Zke, Zkf, Zkg, Zkh, Zki, Zkj, Zkk, Zkl, Zkm, Zkn, Zko, Zkp, List.lookup_nil, Zkq, Zkr, Option.map_some, Option.map_none, Option.bind_some, Option.bind_none, List.map_nil, List.map_cons, List.nil_append, List.cons_append, List.append_nil, List.length_cons, List.length_nil, Nat.reduceAdd, Nat.reduceLeDiff, Nat.reduceEqDiff, Nat.reduceBEq, decide_true, decide_false, Bool.not_true, Bool.not_false, Zks, Zkt, Zku, Zkv, Zkw, Zkx, Zky, Zkz, Zla, Zlb, Zlc, Zld, Zle, Zlf, List.getElem?_cons_zero, List.getElem?_cons_succ, Zlg, Zlh, Zli, Zlj, Zlk, Zll, Zlm, Zln, Zlo, Zlp, Zlq, Zlr, Zls, Zlt, Zlu, Zlv, Zlw, Zlx, Zly, setX, Zlz, Zma, Zmb, Int.ofNat_lt, Int.ofNat_le]
            refine ⟨rfl, rfl, ?_⟩
            show some (rD _) = some (rD ((s.t p c)⁻¹ * s.t p j))
            rw [h, Rat.mul_zero]
          · simp -implicitDefEqProofs -dsimp only [↓Zaa, ↓Zab, ↓Zac, ↓Zad, ↓Zae, ↓Zaf, ↓Zag, ↓Zah, ↓Zai, ↓Zaj, ↓Zak, ↓Zal, ↓Zam, ↓Zan, ↓Zao, ↓Zap, ↓Zaq, ↓Zar, ↓Zas, ↓Zat, ↓Zau, ↓Zav, ↓Zaw, ↓Zax, ↓Zay, ↓Zaz, ↓Zba, ↓Zbb, ↓Zbc, ↓Zbd, ↓Zbe, ↓Zbf, ↓Zbg, ↓Zbh, ↓Zbi, ↓Zbj, ↓Zbk, ↓Zbl, ↓Zbm, ↓Zbn, ↓Zbo, ↓Zbp, ↓Zbq, ↓Zbr, ↓Zbs, ↓Zbt, ↓Zbu, ↓Zbv, ↓Zbw, ↓Zbx, ↓Zby, ↓Zbz, ↓Zca, ↓Zcb, ↓Zcc, ↓Zcd, ↓Zce, ↓Zcf, ↓Zcg, ↓Zch, ↓Zci, ↓Zcj, ↓Zck, ↓Zcl, ↓Zcm, ↓Zcn, ↓Zco, ↓Zcp, ↓Zcq, ↓Zcr, ↓Zcs, ↓Zct, ↓Zcu, ↓Zcv, ↓Zcw, ↓Zcx, ↓Zcy, ↓Zcz, ↓Zda, ↓Zdb, ↓Zdc, ↓Zdd, ↓Zde, ↓Zdf, ↓Zdg, ↓Zdh, ↓Zdi, ↓Zdj, ↓Zdk, ↓Zdl, ↓Zdm, ↓Zdn, ↓Zdo, ↓Zdp, ↓Zdq, ↓Zdr, ↓Zds, ↓Zdt, ↓Zdu, ↓Zdv, ↓Zdw, ↓Zdx, ↓Zdy, ↓Zdz, ↓Zea, ↓Zeb, ↓Zec, ↓Zed, ↓Zee, ↓Zef, ↓Zeg, ↓Zeh, ↓Zei, ↓Zej, ↓Zek, ↓Zel, ↓Zem, ↓Zen, ↓Zeo, ↓Zep, ↓Zeq, ↓Zer, ↓Zes, ↓Zet, ↓Zeu, ↓Zev, ↓Zew, ↓Zex, ↓Zey, ↓Zez, ↓Zfa, ↓Zfb, ↓Zfc, ↓Zfd, ↓Zfe, ↓Zff, ↓Zfg, ↓Zfh, ↓Zfi, ↓Zfj, ↓Zfk, ↓Zfl, ↓Zfm, ↓Zfn, ↓Zfo, ↓Zfp, ↓Zfq, ↓Zfr, ↓Zfs, ↓Zft, ↓Zfu, ↓Zfv, ↓Zfw, ↓Zfx, ↓Zfy, ↓Zfz, ↓Zga, ↓Zgb, ↓Zgc, ↓Zgd, ↓Zge, ↓Zgf, ↓Zgg, ↓Zgh, ↓Zgi, ↓Zgj, ↓Zgk, ↓Zgl, ↓Zgm, ↓Zgn, ↓Zgo, ↓Zgp, ↓Zgq, ↓Zgr, ↓Zgs, ↓Zgt, ↓Zgu, ↓Zgv, ↓Zgw, ↓Zgx, ↓Zgy, ↓Zgz, ↓Zha, ↓Zhb, ↓Zhc, ↓Zhd, ↓Zhe, ↓Zhf, ↓Zhg, ↓Zhh, ↓Zhi, ↓Zhj, ↓Zhk, ↓Zhl, ↓Zhm, ↓Zhn, ↓Zho, ↓Zhp, ↓Zhq, ↓Zhr, ↓Zhs, ↓Zht, ↓Zhu, ↓Zhv, ↓Zhw, ↓Zhx, ↓Zhy, ↓Zhz, ↓Zia, ↓Zib, ↓Zic, ↓Zid, ↓Zie, ↓Zif, ↓Zig, ↓Zih, ↓Zii, ↓Zij, ↓Zik, reduceIte, if_true, if_false, Bool.false_eq_true, Bool.and_true, Bool.true_and, Bool.and_false, Bool.false_and, Bool.or_true, Bool.true_or, Bool.or_false, Bool.false_or, Int.cast_ofNat_Int, Zil, Zim, beq_self_eq_true, Int.reduceBEq, Int.reduceLT, Int.reduceLE, Int.reduceEq, Int.reduceNeg, Nat.reduceLT, Zin, Zio, Ziq, Zir, Zis, Zit, Ziu, Ziv, Ziw, Zix, Ziy, Ziz, Zja, Zjb, Zjc, Zjd, Zje, Zjf, Zjg, Zjh, Zji, Zjj, Zjk, Zjl, Zjm, Zjn, Zjo, Zjp, Zjq, Zjr, Zjs, Zjt, Zju, Zjv, Zjw, Zjx, Zjy, Zjz, Zka, Zkb, Zkc, Zkd, Zke, Zkf, Zkg, Zkh, Zki, Zkj, Zkk, Zkl, Zkm, Zkn, Zko, Zkp, List.lookup_nil, Zkq, Zkr, Option.map_some, Option.map_none, Option.bind_some, Option.bind_none, List.map_nil, List.map_cons, List.nil_append, List.cons_append, List.append_nil, List.length_cons, List.length_nil, Nat.reduceAdd, Nat.reduceLeDiff, Nat.reduceEqDiff, Nat.reduceBEq, decide_true, decide_false, Bool.not_true, Bool.not_false, Zks, Zkt, Zku, Zkv, Zkw, Zkx, Zky, Zkz, Zla, Zlb, Zlc, Zld, Zle, Zlf, List.getElem?_cons_zero, List.getElem?_cons_succ, Zlg, Zlh, Zli, Zlj, Zlk, Zll, Zlm, Zln, Zlo, Zlp, Zlq, Zlr, Zls, Zlt, Zlu, Zlv, Zlw, Zlx, Zly, setX, Zlz, Zma, Zmb, Int.ofNat_lt, Int.ofNat_le, m_mul ((sz p c h2 hcL).inv h3) (sz p j h2 hj) (by omega)]
            exact ⟨rfl, rfl, rfl⟩
        · simp -implicitDefEqProofs -dsimp only [↓Zaa, ↓Zab, ↓Zac, ↓Zad, ↓Zae, ↓Zaf, ↓Zag, ↓Zah, ↓Zai, ↓Zaj, ↓Zak, ↓Zal, ↓Zam, ↓Zan, ↓Zao, ↓Zap, ↓Zaq, ↓Zar, ↓Zas, ↓Zat, ↓Zau, ↓Zav, ↓Zaw, ↓Zax, ↓Zay, ↓Zaz, ↓Zba, ↓Zbb, ↓Zbc, ↓Zbd, ↓Zbe, ↓Zbf, ↓Zbg, ↓Zbh, ↓Zbi, ↓Zbj, ↓Zbk, ↓Zbl, ↓Zbm, ↓Zbn, ↓Zbo, ↓Zbp, ↓Zbq, ↓Zbr, ↓Zbs, ↓Zbt, ↓Zbu, ↓Zbv, ↓Zbw, ↓Zbx, ↓Zby, ↓Zbz, ↓Zca, ↓Zcb, ↓Zcc, ↓Zcd, ↓Zce, ↓Zcf, ↓Zcg, ↓Zch, ↓Zci, ↓Zcj, ↓Zck, ↓Zcl, ↓Zcm, ↓Zcn, ↓Zco, ↓Zcp, ↓Zcq, ↓Zcr, ↓Zcs, ↓Zct, ↓Zcu, ↓Zcv, ↓Zcw, ↓Zcx, ↓Zcy, ↓Zcz, ↓Zda, ↓Zdb, ↓Zdc, ↓Zdd, ↓Zde, ↓Zdf, ↓Zdg, ↓Zdh, ↓Zdi, ↓Zdj, ↓Zdk, ↓Zdl, ↓Zdm, ↓Zdn, ↓Zdo, ↓Zdp, ↓Zdq, ↓Zdr, ↓Zds, ↓Zdt, ↓Zdu, ↓Zdv, ↓Zdw, ↓Zdx, ↓Zdy, ↓Zdz, ↓Zea, ↓Zeb, ↓Zec, ↓Zed, ↓Zee, ↓Zef, ↓Zeg, ↓Zeh, ↓Zei, ↓Zej, ↓Zek, ↓Zel, ↓Zem, ↓Zen, ↓Zeo, ↓Zep, ↓Zeq, ↓Zer, ↓Zes, ↓Zet, ↓Zeu, ↓Zev, ↓Zew, ↓Zex, ↓Zey, ↓Zez, ↓Zfa, ↓Zfb, ↓Zfc, ↓Zfd, ↓Zfe, ↓Zff, ↓Zfg, ↓Zfh, ↓Zfi, ↓Zfj, ↓Zfk, ↓Zfl, ↓Zfm, ↓Zfn, ↓Zfo, ↓Zfp, ↓Zfq, ↓Zfr, ↓Zfs, ↓Zft, ↓Zfu, ↓Zfv, ↓Zfw, ↓Zfx, ↓Zfy, ↓Zfz, ↓Zga, ↓Zgb, ↓Zgc, ↓Zgd, ↓Zge, ↓Zgf, ↓Zgg, ↓Zgh, ↓Zgi, ↓Zgj, ↓Zgk, ↓Zgl, ↓Zgm, ↓Zgn, ↓Zgo, ↓Zgp, ↓Zgq, ↓Zgr, ↓Zgs, ↓Zgt, ↓Zgu, ↓Zgv, ↓Zgw, ↓Zgx, ↓Zgy, ↓Zgz, ↓Zha, ↓Zhb, ↓Zhc, ↓Zhd, ↓Zhe, ↓Zhf, ↓Zhg, ↓Zhh, ↓Zhi, ↓Zhj, ↓Zhk, ↓Zhl, ↓Zhm, ↓Zhn, ↓Zho, ↓Zhp, ↓Zhq, ↓Zhr, ↓Zhs, ↓Zht, ↓Zhu, ↓Zhv, ↓Zhw, ↓Zhx, ↓Zhy, ↓Zhz, ↓Zia, ↓Zib, ↓Zic, ↓Zid, ↓Zie, ↓Zif, ↓Zig, ↓Zih, ↓Zii, ↓Zij, ↓Zik, reduceIte, if_true, if_false, Bool.false_eq_true, Bool.and_true, Bool.true_and, Bool.and_false, Bool.false_and, Bool.or_true, Bool.true_or, Bool.or_false, Bool.false_or, Int.cast_ofNat_Int, Zil, Zim, beq_self_eq_true, Int.reduceBEq, Int.reduceLT, Int.reduceLE, Int.reduceEq, Int.reduceNeg, Nat.reduceLT, Zin, Zio, Ziq, Zir, Zis, Zit, Ziu, Ziv, Ziw, Zix, Ziy, Ziz, Zja, Zjb, Zjc, Zjd, Zje, Zjf, Zjg, Zjh, Zji, Zjj, Zjk, Zjl, Zjm, Zjn, Zjo, Zjp, Zjq, Zjr, Zjs, Zjt, Zju, Zjv, Zjw, Zjx, Zjy, Zjz, Zka, Zkb, Zkc, Zkd, Zke, Zkf, Zkg, Zkh, Zki, Zkj, Zkk, Zkl, Zkm, Zkn, Zko, Zkp, List.lookup_nil, Zkq, Zkr, Option.map_some, Option.map_none, Option.bind_some, Option.bind_none, List.map_nil, List.map_cons, List.nil_append, List.cons_append, List.append_nil, List.length_cons, List.length_nil, Nat.reduceAdd, Nat.reduceLeDiff, Nat.reduceEqDiff, Nat.reduceBEq, decide_true, decide_false, Bool.not_true, Bool.not_false, Zks, Zkt, Zku, Zkv, Zkw, Zkx, Zky, Zkz, Zla, Zlb, Zlc, Zld, Zle, Zlf, List.getElem?_cons_zero, List.getElem?_cons_succ, Zlg, Zlh, Zli, Zlj, Zlk, Zll, Zlm, Zln, Zlo, Zlp, Zlq, Zlr, Zls, Zlt, Zlu, Zlv, Zlw, Zlx, Zly, setX, Zlz, Zma, Zmb, Int.ofNat_lt, Int.ofNat_le, y10, y11, tb_set, ixN_nat hdn, tb_len, hsn]
          rw [tb_set, tb_set]
          refine for_r0 (fun i e => ∃ x10 x11, e = [.own true (.l (tbD n L (fun k => if k < i then stepT s.t s.pv.length p c k else t1 k))), .val (.int w), .own false (.l (pvD s.pv)), .val (.int c), .val (.int s.pv.length), .val (.lst (.int p :: rs)), .un, .val (rowD L r), .val (rD (s.t p c)⁻¹), .un, x10, x11, .un, .un] ∧ Fr1 x10 ∧ Fr1 x11) ?_ ?_ ?_
          · exact ⟨x10, x11, rfl, y10, y11⟩
          · rintro i e hi ⟨z10, z11, rfl, q10, q11⟩
            have ui : atI (tbD n L (fun k => if k < i then stepT s.t s.pv.length p c k else t1 k)) (i : Int) = some (rowD L (t1 i)) := by
              rw [tb_at hi, if_neg (Nat.lt_irrefl i)]
            have keep : (∀ j, j < L → t1 i j = stepT s.t s.pv.length p c i j) → tbD n L (fun k => if k < i then stepT s.t s.pv.length p c k else t1 k) = tbD n L (fun k => if k < i + 1 then stepT s.t s.pv.length p c k else t1 k) := fun h => tb_ext fun k j _ hj => by
              by_cases e1 : k < i
              · rw [if_pos e1, if_pos (by omega)]
              · rw [if_neg e1]
                by_cases e2 : k = i
                · rw [if_pos (by omega), e2]; exact h j hj
                · rw [if_neg (by omega)]
            by_cases hid : i = s.pv.length
            · have e1 : ((i : Int) == (s.pv.length : Int)) = true := by simp; omega
              simp -implicitDefEqProofs -dsimp only [↓Zaa, ↓Zab, ↓Zac, ↓Zad, ↓Zae, ↓Zaf, ↓Zag, ↓Zah, ↓Zai, ↓Zaj, ↓Zak, ↓Zal, ↓Zam, ↓Zan, ↓Zao, ↓Zap, ↓Zaq, ↓Zar, ↓Zas, ↓Zat, ↓Zau, ↓Zav, ↓Zaw, ↓Zax, ↓Zay, ↓Zaz, ↓Zba, ↓Zbb, ↓Zbc, ↓Zbd, ↓Zbe, ↓Zbf, ↓Zbg, ↓Zbh, ↓Zbi, ↓Zbj, ↓Zbk, ↓Zbl, ↓Zbm, ↓Zbn, ↓Zbo, ↓Zbp, ↓Zbq, ↓Zbr, ↓Zbs, ↓Zbt, ↓Zbu, ↓Zbv, ↓Zbw, ↓Zbx, ↓Zby, ↓Zbz, ↓Zca, ↓Zcb, ↓Zcc, ↓Zcd, ↓Zce, ↓Zcf, ↓Zcg, ↓Zch, ↓Zci, ↓Zcj, ↓Zck, ↓Zcl, ↓Zcm, ↓Zcn, ↓Zco, ↓Zcp, ↓Zcq, ↓Zcr, ↓Zcs, ↓Zct, ↓Zcu, ↓Zcv, ↓Zcw, ↓Zcx, ↓Zcy, ↓Zcz, ↓Zda, ↓Zdb, ↓Zdc, ↓Zdd, ↓Zde, ↓Zdf, ↓Zdg, ↓Zdh, ↓Zdi, ↓Zdj, ↓Zdk, ↓Zdl, ↓Zdm, ↓Zdn, ↓Zdo, ↓Zdp, ↓Zdq, ↓Zdr, ↓Zds, ↓Zdt, ↓Zdu, ↓Zdv, ↓Zdw, ↓Zdx, ↓Zdy, ↓Zdz, ↓Zea, ↓Zeb, ↓Zec, ↓Zed, ↓Zee, ↓Zef, ↓Zeg, ↓Zeh, ↓Zei, ↓Zej, ↓Zek, ↓Zel, ↓Zem, ↓Zen, ↓Zeo, ↓Zep, ↓Zeq, ↓Zer, ↓Zes, ↓Zet, ↓Zeu, ↓Zev, ↓Zew, ↓Zex, ↓Zey, ↓Zez, ↓Zfa, ↓Zfb, ↓Zfc, ↓Zfd, ↓Zfe, ↓Zff, ↓Zfg, ↓Zfh, ↓Zfi, ↓Zfj, ↓Zfk, ↓Zfl, ↓Zfm, ↓Zfn, ↓Zfo, ↓Zfp, ↓Zfq, ↓Zfr, ↓Zfs, ↓Zft, ↓Zfu, ↓Zfv, ↓Zfw, ↓Zfx, ↓Zfy, ↓Zfz, ↓Zga, ↓Zgb, ↓Zgc, ↓Zgd, ↓Zge, ↓Zgf, ↓Zgg, ↓Zgh, ↓Zgi, ↓Zgj, ↓Zgk, ↓Zgl, ↓Zgm, ↓Zgn, ↓Zgo, ↓Zgp, ↓Zgq, ↓Zgr, ↓Zgs, ↓Zgt, ↓Zgu, ↓Zgv, ↓Zgw, ↓Zgx, ↓Zgy, ↓Zgz, ↓Zha, ↓Zhb, ↓Zhc, ↓Zhd, ↓Zhe, ↓Zhf, ↓Zhg, ↓Zhh, ↓Zhi, ↓Zhj, ↓Zhk, ↓Zhl, ↓Zhm, ↓Zhn, ↓Zho, ↓Zhp, ↓Zhq, ↓Zhr, ↓Zhs, ↓Zht, ↓Zhu, ↓Zhv, ↓Zhw, ↓Zhx, ↓Zhy, ↓Zhz, ↓Zia, ↓Zib, ↓Zic, ↓Zid, ↓Zie, ↓Zif, ↓Zig, ↓Zih, ↓Zii, ↓Zij, ↓Zik, reduceIte, if_true, if_false, Bool.false_eq_true, Bool.and_true, Bool.true_and, Bool.and_false, Bool.false_and, Bool.or_true, Bool.true_or, Bool.or_false, Bool.false_or, Int.cast_ofNat_Int, Zil, Zim, beq_self_eq_true, Int.reduceBEq, Int.reduceLT, Int.reduceLE, Int.reduceEq, Int.reduceNeg, Nat.reduceLT, Zin, Zio, Ziq, Zir, Zis, Zit, Ziu, Ziv, Ziw, Zix, Ziy, Ziz, Zja, Zjb, Zjc, Zjd, Zje, Zjf, Zjg, Zjh, Zji, Zjj, Zjk, Zjl, Zjm, Zjn, Zjo, Zjp, Zjq, Zjr, Zjs, Zjt, Zju, Zjv, Zjw, Zjx, Zjy, Zjz, Zka, Zkb, Zkc, Zkd, Zke, Zkf, Zkg, Zkh, Zki, Zkj, Zkk, Zkl, Zkm, Zkn, Zko, Zkp, List.lookup_nil, Zkq, Zkr, Option.map_some, Option.map_none, Option.bind_some, Option.bind_none, List.map_nil, List.map_cons, List.nil_append, List.cons_append, List.append_nil, List.length_cons, List.length_nil, Nat.reduceAdd, Nat.reduceLeDiff, Nat.reduceEqDiff, Nat.reduceBEq, decide_true, decide_false, Bool.not_true, Bool.not_false, Zks, Zkt, Zku, Zkv, Zkw, Zkx, Zky, Zkz, Zla, Zlb, Zlc, Zld, Zle, Zlf, List.getElem?_cons_zero, List.getElem?_cons_succ, Zlg, Zlh, Zli, Zlj, Zlk, Zll, Zlm, Zln, Zlo, Zlp, Zlq, Zlr, Zls, Zlt, Zlu, Zlv, Zlw, Zlx, Zly, setX, Zlz, Zma, Zmb, Int.ofNat_lt, Int.ofNat_le, q10, q11, ui, vec_atI hcL, e1]
              refine ⟨.val (.int i), .val (rD (t1 i c)), ?_, .val, .val⟩
              rw [keep fun j hj => ?_]
              show (if i = s.pv.length then r else _) j = if i = s.pv.length then r j else _
              rw [if_pos hid, if_pos hid]
            · have e1 : ((i : Int) == (s.pv.length : Int)) = false := by simp; omega
              have et : t1 i = if i = p then s.t s.pv.length else s.t i := if_neg hid
              have es : ∀ j, stepT s.t s.pv.length p c i j = t1 i j - t1 i c * r j := fun j => by
                rw [et]
                exact if_neg hid
              have sw : ∀ j, j < L → Sz M (t1 i j) := fun j hj => by rw [et]; exact srw i j hi hj
              by_cases h0 : t1 i c = 0
              · have e2 : ((t1 i c).num == 0) = true := by rw [num_b]; simp [h0]
                simp -implicitDefEqProofs -dsimp only [↓Zaa, ↓Zab, ↓Zac, ↓Zad, ↓Zae, ↓Zaf, ↓Zag, ↓Zah, ↓Zai, ↓Zaj, ↓Zak, ↓Zal, ↓Zam, ↓Zan, ↓Zao, ↓Zap, ↓Zaq, ↓Zar, ↓Zas, ↓Zat, ↓Zau, ↓Zav, ↓Zaw, ↓Zax, ↓Zay, ↓Zaz, ↓Zba, ↓Zbb, ↓Zbc, ↓Zbd, ↓Zbe, ↓Zbf, ↓Zbg, ↓Zbh, ↓Zbi, ↓Zbj, ↓Zbk, ↓Zbl, ↓Zbm, ↓Zbn, ↓Zbo, ↓Zbp, ↓Zbq, ↓Zbr, ↓Zbs, ↓Zbt, ↓Zbu, ↓Zbv, ↓Zbw, ↓Zbx, ↓Zby, ↓Zbz, ↓Zca, ↓Zcb, ↓Zcc, ↓Zcd, ↓Zce, ↓Zcf, ↓Zcg, ↓Zch, ↓Zci, ↓Zcj, ↓Zck, ↓Zcl, ↓Zcm, ↓Zcn, ↓Zco, ↓Zcp, ↓Zcq, ↓Zcr, ↓Zcs, ↓Zct, ↓Zcu, ↓Zcv, ↓Zcw, ↓Zcx, ↓Zcy, ↓Zcz, ↓Zda, ↓Zdb, ↓Zdc, ↓Zdd, ↓Zde, ↓Zdf, ↓Zdg, ↓Zdh, ↓Zdi, ↓Zdj, ↓Zdk, ↓Zdl, ↓Zdm, ↓Zdn, ↓Zdo, ↓Zdp, ↓Zdq, ↓Zdr, ↓Zds, ↓Zdt, ↓Zdu, ↓Zdv, ↓Zdw, ↓Zdx, ↓Zdy, ↓Zdz, ↓Zea, ↓Zeb, ↓Zec, ↓Zed, ↓Zee, ↓Zef, ↓Zeg, ↓Zeh, ↓Zei, ↓Zej, ↓Zek, ↓Zel, ↓Zem, ↓Zen, ↓Zeo, ↓Zep, ↓Zeq, ↓Zer, ↓Zes, ↓Zet, ↓Zeu, ↓Zev, ↓Zew, ↓Zex, ↓Zey, ↓Zez, ↓Zfa, ↓Zfb, ↓Zfc, ↓Zfd, ↓Zfe, ↓Zff, ↓Zfg, ↓Zfh, ↓Zfi, ↓Zfj, ↓Zfk, ↓Zfl, ↓Zfm, ↓Zfn, ↓Zfo, ↓Zfp, ↓Zfq, ↓Zfr, ↓Zfs, ↓Zft, ↓Zfu, ↓Zfv, ↓Zfw, ↓Zfx, ↓Zfy, ↓Zfz, ↓Zga, ↓Zgb, ↓Zgc, ↓Zgd, ↓Zge, ↓Zgf, ↓Zgg, ↓Zgh, ↓Zgi, ↓Zgj, ↓Zgk, ↓Zgl, ↓Zgm, ↓Zgn, ↓Zgo, ↓Zgp, ↓Zgq, ↓Zgr, ↓Zgs, ↓Zgt, ↓Zgu, ↓Zgv, ↓Zgw, ↓Zgx, ↓Zgy, ↓Zgz, ↓Zha, ↓Zhb, ↓Zhc, ↓Zhd, ↓Zhe, ↓Zhf, ↓Zhg, ↓Zhh, ↓Zhi, ↓Zhj, ↓Zhk, ↓Zhl, ↓Zhm, ↓Zhn, ↓Zho, ↓Zhp, ↓Zhq, ↓Zhr, ↓Zhs, ↓Zht, ↓Zhu, ↓Zhv, ↓Zhw, ↓Zhx, ↓Zhy, ↓Zhz, ↓Zia, ↓Zib, ↓Zic, ↓Zid, ↓Zie, ↓Zif, ↓Zig, ↓Zih, ↓Zii, ↓Zij, ↓Zik, reduceIte, if_true, if_false, Bool.false_eq_true, Bool.and_true, Bool.true_and, Bool.and_false, Bool.false_and, Bool.or_true, Bool.true_or, Bool.or_false, Bool.false_or, Int.cast_ofNat_Int, Zil, Zim, beq_self_eq_true, Int.reduceBEq, Int.reduceLT, Int.reduceLE, Int.reduceEq, Int.reduceNeg, Nat.reduceLT, Zin, Zio, Ziq, Zir, Zis, Zit, Ziu, Ziv, Ziw, Zix, Ziy, Ziz, Zja, Zjb, Zjc, Zjd, Zje, Zjf, Zjg, Zjh, Zji, Zjj, Zjk, Zjl, Zjm, Zjn, Zjo, Zjp, Zjq, Zjr, Zjs, Zjt, Zju, Zjv, Zjw, Zjx, Zjy, Zjz, Zka, Zkb, Zkc, Zkd, Zke, Zkf, Zkg, Zkh, Zki, Zkj, Zkk, Zkl, Zkm, Zkn, Zko, Zkp, List.lookup_nil, Zkq, Zkr, Option.map_some, Option.map_none, Option.bind_some, Option.bind_none, List.map_nil, List.map_cons, List.nil_append, List.cons_append, List.append_nil, List.length_cons, List.length_nil, Nat.reduceAdd, Nat.reduceLeDiff, Nat.reduceEqDiff, Nat.reduceBEq, decide_true, decide_false, Bool.not_true, Bool.not_false, Zks, Zkt, Zku, Zkv, Zkw, Zkx, Zky, Zkz, Zla, Zlb, Zlc, Zld, Zle, Zlf, List.getElem?_cons_zero, List.getElem?_cons_succ, Zlg, Zlh, Zli, Zlj, Zlk, Zll, Zlm, Zln, Zlo, Zlp, Zlq, Zlr, Zls, Zlt, Zlu, Zlv, Zlw, Zlx, Zly, setX, Zlz, Zma, Zmb, Int.ofNat_lt, Int.ofNat_le, q10, q11, ui, vec_atI hcL, e1, e2]
                refine ⟨.val (.int i), .val (rD (t1 i c)), ?_, .val, .val⟩
                rw [keep fun j hj => ?_]
                rw [es, h0]
                grind
              · have e2 : ((t1 i c).num == 0) = false := by rw [num_b]; simp [h0]
                simp -implicitDefEqProofs -dsimp only [↓Zaa, ↓Zab, ↓Zac, ↓Zad, ↓Zae, ↓Zaf, ↓Zag, ↓Zah, ↓Zai, ↓Zaj, ↓Zak, ↓Zal, ↓Zam, ↓Zan, ↓Zao, ↓Zap, ↓Zaq, ↓Zar, ↓Zas, ↓Zat, ↓Zau, ↓Zav, ↓Zaw, ↓Zax, ↓Zay, ↓Zaz, ↓Zba, ↓Zbb, ↓Zbc, ↓Zbd, ↓Zbe, ↓Zbf, ↓Zbg, ↓Zbh, ↓Zbi, ↓Zbj, ↓Zbk, ↓Zbl, ↓Zbm, ↓Zbn, ↓Zbo, ↓Zbp, ↓Zbq, ↓Zbr, ↓Zbs, ↓Zbt, ↓Zbu, ↓Zbv, ↓Zbw, ↓Zbx, ↓Zby, ↓Zbz, ↓Zca, ↓Zcb, ↓Zcc, ↓Zcd, ↓Zce, ↓Zcf, ↓Zcg, ↓Zch, ↓Zci, ↓Zcj, ↓Zck, ↓Zcl, ↓Zcm, ↓Zcn, ↓Zco, ↓Zcp, ↓Zcq, ↓Zcr, ↓Zcs, ↓Zct, ↓Zcu, ↓Zcv, ↓Zcw, ↓Zcx, ↓Zcy, ↓Zcz, ↓Zda, ↓Zdb, ↓Zdc, ↓Zdd, ↓Zde, ↓Zdf, ↓Zdg, ↓Zdh, ↓Zdi, ↓Zdj, ↓Zdk, ↓Zdl, ↓Zdm, ↓Zdn, ↓Zdo, ↓Zdp, ↓Zdq, ↓Zdr, ↓Zds, ↓Zdt, ↓Zdu, ↓Zdv, ↓Zdw, ↓Zdx, ↓Zdy, ↓Zdz, ↓Zea, ↓Zeb, ↓Zec, ↓Zed, ↓Zee, ↓Zef, ↓Zeg, ↓Zeh, ↓Zei, ↓Zej, ↓Zek, ↓Zel, ↓Zem, ↓Zen, ↓Zeo, ↓Zep, ↓Zeq, ↓Zer, ↓Zes, ↓Zet, ↓Zeu, ↓Zev, ↓Zew, ↓Zex, ↓Zey, ↓Zez, ↓Zfa, ↓Zfb, ↓Zfc, ↓Zfd, ↓Zfe, ↓Zff, ↓Zfg, ↓Zfh, ↓Zfi, ↓Zfj, ↓Zfk, ↓Zfl, ↓Zfm, ↓Zfn, ↓Zfo, ↓Zfp, ↓Zfq, ↓Zfr, ↓Zfs, ↓Zft, ↓Zfu, ↓Zfv, ↓Zfw, ↓Zfx, ↓Zfy, ↓Zfz, ↓Zga, ↓Zgb, ↓Zgc, ↓Zgd, ↓Zge, ↓Zgf, ↓Zgg, ↓Zgh, ↓Zgi, ↓Zgj, ↓Zgk, ↓Zgl, ↓Zgm, ↓Zgn, ↓Zgo, ↓Zgp, ↓Zgq, ↓Zgr, ↓Zgs, ↓Zgt, ↓Zgu, ↓Zgv, ↓Zgw, ↓Zgx, ↓Zgy, ↓Zgz, ↓Zha, ↓Zhb, ↓Zhc, ↓Zhd, ↓Zhe, ↓Zhf, ↓Zhg, ↓Zhh, ↓Zhi, ↓Zhj, ↓Zhk, ↓Zhl, ↓Zhm, ↓Zhn, ↓Zho, ↓Zhp, ↓Zhq, ↓Zhr, ↓Zhs, ↓Zht, ↓Zhu, ↓Zhv, ↓Zhw, ↓Zhx, ↓Zhy, ↓Zhz, ↓Zia, ↓Zib, ↓Zic, ↓Zid, ↓Zie, ↓Zif, ↓Zig, ↓Zih, ↓Zii, ↓Zij, ↓Zik, reduceIte, if_true, if_false, Bool.false_eq_true, Bool.and_true, Bool.true_and, Bool.and_false, Bool.false_and, Bool.or_true, Bool.true_or, Bool.or_false, Bool.false_or, Int.cast_ofNat_Int, Zil, Zim, beq_self_eq_true, Int.reduceBEq, Int.reduceLT, Int.reduceLE, Int.reduceEq, Int.reduceNeg, Nat.reduceLT, Zin, Zio, Ziq, Zir, Zis, Zit, Ziu, Ziv, Ziw, Zix, Ziy, Ziz, Zja, Zjb, Zjc, Zjd, Zje, Zjf, Zjg, Zjh, Zji, Zjj, Zjk, Zjl, Zjm, Zjn, Zjo, Zjp, Zjq, Zjr, Zjs, Zjt, Zju, Zjv, Zjw, Zjx, Zjy, Zjz, Zka, Zkb, Zkc, Zkd, Zke, Zkf, Zkg, Zkh, Zki, Zkj, Zkk, Zkl, Zkm, Zkn, Zko, Zkp, List.lookup_nil, Zkq, Zkr, Option.map_some, Option.map_none, Option.bind_some, Option.bind_none, List.map_nil, List.map_cons, List.nil_append, List.cons_append, List.append_nil, List.length_cons, List.length_nil, Nat.reduceAdd, Nat.reduceLeDiff, Nat.reduceEqDiff, Nat.reduceBEq, decide_true, decide_false, Bool.not_true, Bool.not_false, Zks, Zkt, Zku, Zkv, Zkw, Zkx, Zky, Zkz, Zla, Zlb, Zlc, Zld, Zle, Zlf, List.getElem?_cons_zero, List.getElem?_cons_succ, Zlg, Zlh, Zli, Zlj, Zlk, Zll, Zlm, Zln, Zlo, Zlp, Zlq, Zlr, Zls, Zlt, Zlu, Zlv, Zlw, Zlx, Zly, setX, Zlz, Zma, Zmb, Int.ofNat_lt, Int.ofNat_le, q10, q11, ui, vec_atI hcL, e1, e2]
                rw [vec_zip]
                refine lc_vec (fun j => rD (t1 i j - t1 i c * r j)) rfl (by simp only [wipeE, List.set_cons_zero, List.set_cons_succ]; rfl) (by omega) (fun j hj => ?_) ?_
                · have e3 : ((r j).num == 0) = decide (r j = 0) := num_b _
                  simp -implicitDefEqProofs -dsimp only [↓Zaa, ↓Zab, ↓Zac, ↓Zad, ↓Zae, ↓Zaf, ↓Zag, ↓Zah, ↓Zai, ↓Zaj, ↓Zak, ↓Zal, ↓Zam, ↓Zan, ↓Zao, ↓Zap, ↓Zaq, ↓Zar, ↓Zas, ↓Zat, ↓Zau, ↓Zav, ↓Zaw, ↓Zax, ↓Zay, ↓Zaz, ↓Zba, ↓Zbb, ↓Zbc, ↓Zbd, ↓Zbe, ↓Zbf, ↓Zbg, ↓Zbh, ↓Zbi, ↓Zbj, ↓Zbk, ↓Zbl, ↓Zbm, ↓Zbn, ↓Zbo, ↓Zbp, ↓Zbq, ↓Zbr, ↓Zbs, ↓Zbt, ↓Zbu, ↓Zbv, ↓Zbw, ↓Zbx, ↓Zby, ↓Zbz, ↓Zca, ↓Zcb, ↓Zcc, ↓Zcd, ↓Zce, ↓Zcf, ↓Zcg, ↓Zch, ↓Zci, ↓Zcj, ↓Zck, ↓Zcl, ↓Zcm, ↓Zcn, ↓Zco, ↓Zcp, ↓Zcq, ↓Zcr, ↓Zcs, ↓Zct, ↓Zcu, ↓Zcv, ↓Zcw, ↓Zcx, ↓Zcy, ↓Zcz, ↓Zda, ↓Zdb, ↓Zdc, ↓Zdd, ↓Zde, ↓Zdf, ↓Zdg, ↓Zdh, ↓Zdi, ↓Zdj, ↓Zdk, ↓Zdl, ↓Zdm, ↓Zdn, ↓Zdo, ↓Zdp, ↓Zdq, ↓Zdr, ↓Zds, ↓Zdt, ↓Zdu, ↓Zdv, ↓Zdw, ↓Zdx, ↓Zdy, ↓Zdz, ↓Zea, ↓Zeb, ↓Zec, ↓Zed, ↓Zee, ↓Zef, ↓Zeg, ↓Zeh, ↓Zei, ↓Zej, ↓Zek, ↓Zel, ↓Zem, ↓Zen, ↓Zeo, ↓Zep, ↓Zeq, ↓Zer, ↓Zes, ↓Zet, ↓Zeu, ↓Zev, ↓Zew, ↓Zex, ↓Zey, ↓Zez, ↓Zfa, ↓Zfb, ↓Zfc, ↓Zfd, ↓Zfe, ↓Zff, ↓Zfg, ↓Zfh, ↓Zfi, ↓Zfj, ↓Zfk, ↓Zfl, ↓Zfm, ↓Zfn, ↓Zfo, ↓Zfp, ↓Zfq, ↓Zfr, ↓Zfs, ↓Zft, ↓Zfu, ↓Zfv, ↓Zfw, ↓Zfx, ↓Zfy, ↓Zfz, ↓Zga, ↓Zgb, ↓Zgc, ↓Zgd, ↓Zge, ↓Zgf, ↓Zgg, ↓Zgh, ↓Zgi, ↓Zgj, ↓Zgk, ↓Zgl, ↓Zgm, ↓Zgn, ↓Zgo, ↓Zgp, ↓Zgq, ↓Zgr, ↓Zgs, ↓Zgt, ↓Zgu, ↓Zgv, ↓Zgw, ↓Zgx, ↓Zgy, ↓Zgz, ↓Zha, ↓Zhb, ↓Zhc, ↓Zhd, ↓Zhe, ↓Zhf, ↓Zhg, ↓Zhh, ↓Zhi, ↓Zhj, ↓Zhk, ↓Zhl, ↓Zhm, ↓Zhn, ↓Zho, ↓Zhp, ↓Zhq, ↓Zhr, ↓Zhs, ↓Zht, ↓Zhu, ↓Zhv, ↓Zhw, ↓Zhx, ↓Zhy, ↓Zhz, ↓Zia, ↓Zib, ↓Zic, ↓Zid, ↓Zie, ↓Zif, ↓Zig, ↓Zih, ↓Zii, ↓Zij, ↓Zik, reduceIte, if_true, if_false, Bool.false_eq_true, Bool.and_true, Bool.true_and, Bool.and_false, Bool.false_and, Bool.or_true, Bool.true_or, Bool.or_false, Bool.false_or, Int.cast_ofNat_Int, Zil, Zim, beq_self_eq_true, Int.reduceBEq, Int.reduceLT, Int.reduceLE, Int.reduceEq, Int.reduceNeg, Nat.reduceLT, Zin, Zio, Ziq, Zir, Zis, Zit, Ziu, Ziv, Ziw, Zix, Ziy, Ziz, Zja, Zjb, Zjc, Zjd, Zje, Zjf, Zjg, Zjh, Zji, Zjj, Zjk, Zjl, Zjm, Zjn, Zjo, Zjp, Zjq, Zjr, Zjs, Zjt, Zju, Zjv, Zjw, Zjx, Zjy, Zjz, Zka, Zkb, Zkc, Zkd, Zke, Zkf, Zkg, Zkh, Zki, Zkj, Zkk, Zkl, Zkm, Zkn, Zko, Zkp, List.lookup_nil, Zkq, Zkr, Option.map_some, Option.map_none, Option.bind_some, Option.bind_none, List.map_nil, List.map_cons, List.nil_append, List.cons_append, List.append_nil, List.length_cons, List.length_nil, Nat.reduceAdd, Nat.reduceLeDiff, Nat.reduceEqDiff, Nat.reduceBEq, decide_true, decide_false, Bool.not_true, Bool.not_false, Zks, Zkt, Zku, Zkv, Zkw, Zkx, Zky, Zkz, Zla, Zlb, Zlc, Zld, Zle, Zlf, List.getElem?_cons_zero, List.getElem?_cons_succ, Zlg, Zlh, Zli, Zlj, Zlk, Zll, Zlm, Zln, Zlo, Zlp, Zlq, Zlr, Zls, Zlt, Zlu, Zlv, Zlw, Zlx, Zly, setX, Zlz, Zma, Zmb, Int.ofNat_lt, Int.ofNat_le, e3]
                  refine iteK_dec (fun h => ?_) (fun h => ?_)
                  · simp -implicitDefEqProofs -dsimp only [↓Zaa, ↓Zab, ↓Zac, ↓Zad, ↓Zae, ↓Zaf, ↓Zag, ↓Zah, ↓Zai, ↓Zaj, ↓Zak, ↓Zal, ↓Zam, ↓Zan, ↓Zao, ↓Zap, ↓Zaq, ↓Zar, ↓Zas, ↓Zat, ↓Zau, ↓Zav, ↓Zaw, ↓Zax, ↓Zay, ↓Zaz, ↓Zba, ↓Zbb, ↓Zbc, ↓Zbd, ↓Zbe, ↓Zbf, ↓Zbg, ↓Zbh, ↓Zbi, ↓Zbj, ↓Zbk, ↓Zbl, ↓Zbm, ↓Zbn, ↓Zbo, ↓Zbp, ↓Zbq, ↓Zbr, ↓Zbs, ↓Zbt, ↓Zbu, ↓Zbv, ↓Zbw, ↓Zbx, ↓Zby, ↓Zbz, ↓Zca, ↓Zcb, ↓Zcc, ↓Zcd, ↓Zce, ↓Zcf, ↓Zcg, ↓Zch, ↓Zci, ↓Zcj, ↓Zck, ↓Zcl, ↓Zcm, ↓Zcn, ↓Zco, ↓Zcp, ↓Zcq, ↓Zcr, ↓Zcs, ↓Zct, ↓Zcu, ↓Zcv, ↓Zcw, ↓Zcx, ↓Zcy, ↓Zcz, ↓Zda, ↓Zdb, ↓Zdc, ↓Zdd, ↓Zde, ↓Zdf, ↓Zdg, ↓Zdh, ↓Zdi, ↓Zdj, ↓Zdk, ↓Zdl, ↓Zdm, ↓Zdn, ↓Zdo, ↓Zdp, ↓Zdq, ↓Zdr, ↓Zds, ↓Zdt, ↓Zdu, ↓Zdv, ↓Zdw, ↓Zdx, ↓Zdy, ↓Zdz, ↓Zea, ↓Zeb, ↓Zec, ↓Zed, ↓Zee, ↓Zef, ↓Zeg, ↓Zeh, ↓Zei, ↓Zej, ↓Zek, ↓Zel, ↓Zem, ↓Zen, ↓Zeo, ↓Zep, ↓Zeq, ↓Zer, ↓Zes, ↓Zet, ↓Zeu, ↓Zev, ↓Zew, ↓Zex, ↓Zey, ↓Zez, ↓Zfa, ↓Zfb, ↓Zfc, ↓Zfd, ↓Zfe, ↓Zff, ↓Zfg, ↓Zfh, ↓Zfi, ↓Zfj, ↓Zfk, ↓Zfl, ↓Zfm, ↓Zfn, ↓Zfo, ↓Zfp, ↓Zfq, ↓Zfr, ↓Zfs, ↓Zft, ↓Zfu, ↓Zfv, ↓Zfw, ↓Zfx, ↓Zfy, ↓Zfz, ↓Zga, ↓Zgb, ↓Zgc, ↓Zgd, ↓Zge, ↓Zgf, ↓Zgg, ↓Zgh, ↓Zgi, ↓Zgj, ↓Zgk, ↓Zgl, ↓Zgm, ↓Zgn, ↓Zgo, ↓Zgp, ↓Zgq, ↓Zgr, ↓Zgs, ↓Zgt, ↓Zgu, ↓Zgv, ↓Zgw, ↓Zgx, ↓Zgy, ↓Zgz, ↓Zha, ↓Zhb, ↓Zhc, ↓Zhd, ↓Zhe, ↓Zhf, ↓Zhg, ↓Zhh, ↓Zhi, ↓Zhj, ↓Zhk, ↓Zhl, ↓Zhm, ↓Zhn, ↓Zho, ↓Zhp, ↓Zhq, ↓Zhr, ↓Zhs, ↓Zht, ↓Zhu, ↓Zhv, ↓Zhw, ↓Zhx, ↓Zhy, ↓Zhz, ↓Zia, ↓Zib, ↓Zic, ↓Zid, ↓Zie, ↓Zif, ↓Zig, ↓Zih, ↓Zii, ↓Zij, ↓Zik, reduceIte, if_true, if_false, Bool.false_eq_true, Bool.and_true, Bool.true_and, Bool.and_false, Bool.false_and, Bool.or_true, Bool.true_or, Bool.or_false, Bool.false_or, Int.cast_ofNat_Int, Zil, Zim, beq_self_eq_true, Int.reduceBEq, Int.reduceLT, Int.reduceLE, Int.reduceEq, Int.reduceNeg, Nat.reduceLT, Zin, Zio, Ziq, Zir, Zis, Zit, Ziu, Ziv, Ziw, Zix, Ziy, Ziz, Zja, Zjb, Zjc, Zjd, Zje, Zjf, Zjg, Zjh, Zji, Zjj, Zjk, Zjl, Zjm, Zjn, Zjo, Zjp, Zjq, Zjr, Zjs, Zjt, Zju, Zjv, Zjw, Zjx, Zjy, Zjz, Zka, Zkb, Zkc, Zkd, Zke, Zkf, Zkg, Zkh, Zki, Zkj, Zkk, Zkl, Zkm, Zkn, Zko, Zkp, List.lookup_nil, Zkq, Zkr, Option.map_some, Option.map_none, Option.bind_some, Option.bind_none, List.map_nil, List.map_cons, List.nil_append, List.cons_append, List.append_nil, List.length_cons, List.length_nil, Nat.reduceAdd, Nat.reduceLeDiff, Nat.reduceEqDiff, Nat.reduceBEq, decide_true, decide_false, Bool.not_true, Bool.not_false, Zks, Zkt, Zku, Zkv, Zkw, Zkx, Zky, Zkz, Zla, Zlb, Zlc, Zld, Zle, Zlf, List.getElem?_cons_zero, List.getElem?_cons_succ, Zlg, Zlh, Zli, Zlj, Zlk, Zll, Zlm, Zln, Zlo, Zlp, Zlq, Zlr, Zls, Zlt, Zlu, Zlv, Zlw, Zlx, Zly, setX, Zlz, Zma, Zmb, Int.ofNat_lt, Int.ofNat_le]
                    refine ⟨rfl, rfl, ?_⟩
                    show some (rD _) = some (rD _)
                    rw [h, Rat.mul_zero]
                    congr 2
                    grind
                  · simp -implicitDefEqProofs -dsimp only [↓Zaa, ↓Zab, ↓Zac, ↓Zad, ↓Zae, ↓Zaf, ↓Zag, ↓Zah, ↓Zai, ↓Zaj, ↓Zak, ↓Zal, ↓Zam, ↓Zan, ↓Zao, ↓Zap, ↓Zaq, ↓Zar, ↓Zas, ↓Zat, ↓Zau, ↓Zav, ↓Zaw, ↓Zax, ↓Zay, ↓Zaz, ↓Zba, ↓Zbb, ↓Zbc, ↓Zbd, ↓Zbe, ↓Zbf, ↓Zbg, ↓Zbh, ↓Zbi, ↓Zbj, ↓Zbk, ↓Zbl, ↓Zbm, ↓Zbn, ↓Zbo, ↓Zbp, ↓Zbq, ↓Zbr, ↓Zbs, ↓Zbt, ↓Zbu, ↓Zbv, ↓Zbw, ↓Zbx, ↓Zby, ↓Zbz, ↓Zca, ↓Zcb, ↓Zcc, ↓Zcd, ↓Zce, ↓Zcf, ↓Zcg, ↓Zch, ↓Zci, ↓Zcj, ↓Zck, ↓Zcl, ↓Zcm, ↓Zcn, ↓Zco, ↓Zcp, ↓Zcq, ↓Zcr, ↓Zcs, ↓Zct, ↓Zcu, ↓Zcv, ↓Zcw, ↓Zcx, ↓Zcy, ↓Zcz, ↓Zda, ↓Zdb, ↓Zdc, ↓Zdd, ↓Zde, ↓Zdf, ↓Zdg, ↓Zdh, ↓Zdi, ↓Zdj, ↓Zdk, ↓Zdl, ↓Zdm, ↓Zdn, ↓Zdo, ↓Zdp, ↓Zdq, ↓Zdr, ↓Zds, ↓Zdt, ↓Zdu, ↓Zdv, ↓Zdw, ↓Zdx, ↓Zdy, ↓Zdz, ↓Zea, ↓Zeb, ↓Zec, ↓Zed, ↓Zee, ↓Zef, ↓Zeg, ↓Zeh, ↓Zei, ↓Zej, ↓Zek, ↓Zel, ↓Zem, ↓Zen, ↓Zeo, ↓Zep, ↓Zeq, ↓Zer, ↓Zes, ↓Zet, ↓Zeu, ↓Zev, ↓Zew, ↓Zex, ↓Zey, ↓Zez, ↓Zfa, ↓Zfb, ↓Zfc, ↓Zfd, ↓Zfe, ↓Zff, ↓Zfg, ↓Zfh, ↓Zfi, ↓Zfj, ↓Zfk, ↓Zfl, ↓Zfm, ↓Zfn, ↓Zfo, ↓Zfp, ↓Zfq, ↓Zfr, ↓Zfs, ↓Zft, ↓Zfu, ↓Zfv, ↓Zfw, ↓Zfx, ↓Zfy, ↓Zfz, ↓Zga, ↓Zgb, ↓Zgc, ↓Zgd, ↓Zge, ↓Zgf, ↓Zgg, ↓Zgh, ↓Zgi, ↓Zgj, ↓Zgk, ↓Zgl, ↓Zgm, ↓Zgn, ↓Zgo, ↓Zgp, ↓Zgq, ↓Zgr, ↓Zgs, ↓Zgt, ↓Zgu, ↓Zgv, ↓Zgw, ↓Zgx, ↓Zgy, ↓Zgz, ↓Zha, ↓Zhb, ↓Zhc, ↓Zhd, ↓Zhe, ↓Zhf, ↓Zhg, ↓Zhh, ↓Zhi, ↓Zhj, ↓Zhk, ↓Zhl, ↓Zhm, ↓Zhn, ↓Zho, ↓Zhp, ↓Zhq, ↓Zhr, ↓Zhs, ↓Zht, ↓Zhu, ↓Zhv, ↓Zhw, ↓Zhx, ↓Zhy, ↓Zhz, ↓Zia, ↓Zib, ↓Zic, ↓Zid, ↓Zie, ↓Zif, ↓Zig, ↓Zih, ↓Zii, ↓Zij, ↓Zik, reduceIte, if_true, if_false, Bool.false_eq_true, Bool.and_true, Bool.true_and, Bool.and_false, Bool.false_and, Bool.or_true, Bool.true_or, Bool.or_false, Bool.false_or, Int.cast_ofNat_Int, Zil, Zim, beq_self_eq_true, Int.reduceBEq, Int.reduceLT, Int.reduceLE, Int.reduceEq, Int.reduceNeg, Nat.reduceLT, Zin, Zio, Ziq, Zir, Zis, Zit, Ziu, Ziv, Ziw, Zix, Ziy, Ziz, Zja, Zjb, Zjc, Zjd, Zje, Zjf, Zjg, Zjh, Zji, Zjj, Zjk, Zjl, Zjm, Zjn, Zjo, Zjp, Zjq, Zjr, Zjs, Zjt, Zju, Zjv, Zjw, Zjx, Zjy, Zjz, Zka, Zkb, Zkc, Zkd, Zke, Zkf, Zkg, Zkh, Zki, Zkj, Zkk, Zkl, Zkm, Zkn, Zko, Zkp, List.lookup_nil, Zkq, Zkr, Option.map_some, Option.map_none, Option.bind_some, Option.bind_none, List.map_nil, List.map_cons, List.nil_append, List.cons_append, List.append_nil, List.length_cons, List.length_nil, Nat.reduceAdd, Nat.reduceLeDiff, Nat.reduceEqDiff, Nat.reduceBEq, decide_true, decide_false, Bool.not_true, Bool.not_false, Zks, Zkt, Zku, Zkv, Zkw, Zkx, Zky, Zkz, Zla, Zlb, Zlc, Zld, Zle, Zlf, List.getElem?_cons_zero, List.getElem?_cons_succ, Zlg, Zlh, Zli, Zlj, Zlk, Zll, Zlm, Zln, Zlo, Zlp, Zlq, Zlr, Zls, Zlt, Zlu, Zlv, Zlw, Zlx, Zly, setX, Zlz, Zma, Zmb, Int.ofNat_lt, Int.ofNat_le, m_mul (sw c hcL) (sr j hj) (by omega), m_sub (sw j hj) ((sw c hcL).mul (sr j hj)) (by omega)]
                    exact ⟨rfl, rfl, trivial⟩
                · simp -implicitDefEqProofs -dsimp only [↓Zaa, ↓Zab, ↓Zac, ↓Zad, ↓Zae, ↓Zaf, ↓Zag, ↓Zah, ↓Zai, ↓Zaj, ↓Zak, ↓Zal, ↓Zam, ↓Zan, ↓Zao, ↓Zap, ↓Zaq, ↓Zar, ↓Zas, ↓Zat, ↓Zau, ↓Zav, ↓Zaw, ↓Zax, ↓Zay, ↓Zaz, ↓Zba, ↓Zbb, ↓Zbc, ↓Zbd, ↓Zbe, ↓Zbf, ↓Zbg, ↓Zbh, ↓Zbi, ↓Zbj, ↓Zbk, ↓Zbl, ↓Zbm, ↓Zbn, ↓Zbo, ↓Zbp, ↓Zbq, ↓Zbr, ↓Zbs, ↓Zbt, ↓Zbu, ↓Zbv, ↓Zbw, ↓Zbx, ↓Zby, ↓Zbz, ↓Zca, ↓Zcb, ↓Zcc, ↓Zcd, ↓Zce, ↓Zcf, ↓Zcg, ↓Zch, ↓Zci, ↓Zcj, ↓Zck, ↓Zcl, ↓Zcm, ↓Zcn, ↓Zco, ↓Zcp, ↓Zcq, ↓Zcr, ↓Zcs, ↓Zct, ↓Zcu, ↓Zcv, ↓Zcw, ↓Zcx, ↓Zcy, ↓Zcz, ↓Zda, ↓Zdb, ↓Zdc, ↓Zdd, ↓Zde, ↓Zdf, ↓Zdg, ↓Zdh, ↓Zdi, ↓Zdj, ↓Zdk, ↓Zdl, ↓Zdm, ↓Zdn, ↓Zdo, ↓Zdp, ↓Zdq, ↓Zdr, ↓Zds, ↓Zdt, ↓Zdu, ↓Zdv, ↓Zdw, ↓Zdx, ↓Zdy, ↓Zdz, ↓Zea, ↓Zeb, ↓Zec, ↓Zed, ↓Zee, ↓Zef, ↓Zeg, ↓Zeh, ↓Zei, ↓Zej, ↓Zek, ↓Zel, ↓Zem, ↓Zen, ↓Zeo, ↓Zep, ↓Zeq, ↓Zer, ↓Zes, ↓Zet, ↓Zeu, ↓Zev, ↓Zew, ↓Zex, ↓Zey, ↓Zez, ↓Zfa, ↓Zfb, ↓Zfc, ↓Zfd, ↓Zfe, ↓Zff, ↓Zfg, ↓Zfh, ↓Zfi, ↓Zfj, ↓Zfk, ↓Zfl, ↓Zfm, ↓Zfn, ↓Zfo, ↓Zfp, ↓Zfq, ↓Zfr, ↓Zfs, ↓Zft, ↓Zfu, ↓Zfv, ↓Zfw, ↓Zfx, ↓Zfy, ↓Zfz, ↓Zga, ↓Zgb, ↓Zgc, ↓Zgd, ↓Zge, ↓Zgf, ↓Zgg, ↓Zgh, ↓Zgi, ↓Zgj, ↓Zgk, ↓Zgl, ↓Zgm, ↓Zgn, ↓Zgo, ↓Zgp, ↓Zgq, ↓Zgr, ↓Zgs, ↓Zgt, ↓Zgu, ↓Zgv, ↓Zgw, ↓Zgx, ↓Zgy, ↓Zgz, ↓Zha, ↓Zhb, ↓Zhc, ↓Zhd, ↓Zhe, ↓Zhf, ↓Zhg, ↓Zhh, ↓Zhi, ↓Zhj, ↓Zhk, ↓Zhl, ↓Zhm, ↓Zhn, ↓Zho, ↓Zhp, ↓Zhq, ↓Zhr, ↓Zhs, ↓Zht, ↓Zhu, ↓Zhv, ↓Zhw, ↓Zhx, ↓Zhy, ↓Zhz, ↓Zia, ↓Zib, ↓Zic, ↓Zid, ↓Zie, ↓Zif, ↓Zig, ↓Zih, ↓Zii, ↓Zij, ↓Zik, reduceIte, if_true, if_false, Bool.false_eq_true, Bool.and_true, Bool.true_and, Bool.and_false, Bool.false_and, Bool.or_true, Bool.true_or, Bool.or_false, Bool.false_or, Int.cast_ofNat_Int, Zil, Zim, beq_self_eq_true, Int.reduceBEq, Int.reduceLT, Int.reduceLE, Int.reduceEq, Int.reduceNeg, Nat.reduceLT, Zin, Zio, Ziq, Zir, Zis, Zit, Ziu, Ziv, Ziw, Zix, Ziy, Ziz, Zja, Zjb, Zjc, Zjd, Zje, Zjf, Zjg, Zjh, Zji, Zjj, Zjk, Zjl, Zjm, Zjn, Zjo, Zjp, Zjq, Zjr, Zjs, Zjt, Zju, Zjv, Zjw, Zjx, Zjy, Zjz, Zka, Zkb, Zkc, Zkd, Zke, Zkf, Zkg, Zkh, Zki, Zkj, Zkk, Zkl, Zkm, Zkn, Zko, Zkp, List.lookup_nil, Zkq, Zkr, Option.map_some, Option.map_none, Option.bind_some, Option.bind_none, List.map_nil, List.map_cons, List.nil_append, List.cons_append, List.append_nil, List.length_cons, List.length_nil, Nat.reduceAdd, Nat.reduceLeDiff, Nat.reduceEqDiff, Nat.reduceBEq, decide_true, decide_false, Bool.not_true, Bool.not_false, Zks, Zkt, Zku, Zkv, Zkw, Zkx, Zky, Zkz, Zla, Zlb, Zlc, Zld, Zle, Zlf, List.getElem?_cons_zero, List.getElem?_cons_succ, Zlg, Zlh, Zli, Zlj, Zlk, Zll, Zlm, Zln, Zlo, Zlp, Zlq, Zlr, Zls, Zlt, Zlu, Zlv, Zlw, Zlx, Zly, setX, Zlz, Zma, Zmb, Int.ofNat_lt, Int.ofNat_le, tb_len, ixN_nat hi]
                  refine ⟨.val (.int i), .val (rD (t1 i c)), ?_, .val, .val⟩
                  rw [tb_set]
                  congr 2
                  refine congrArg OB.l (tb_ext fun k j _ hj => ?_)
                  by_cases e3 : k = i
                  · rw [if_pos e3, if_pos (by omega), e3, es]
                  · rw [if_neg e3]
                    by_cases e4 : k < i
                    · rw [if_pos e4, if_pos (by omega)]
                    · rw [if_neg e4, if_neg (by omega)]
          · rintro e ⟨z10, z11, rfl, q10, q11⟩
            have q : s.pv.length < 16777216 := by omega
            simp -implicitDefEqProofs -dsimp only [↓Zaa, ↓Zab, ↓Zac, ↓Zad, ↓Zae, ↓Zaf, ↓Zag, ↓Zah, ↓Zai, ↓Zaj, ↓Zak, ↓Zal, ↓Zam, ↓Zan, ↓Zao, ↓Zap, ↓Zaq, ↓Zar, ↓Zas, ↓Zat, ↓Zau, ↓Zav, ↓Zaw, ↓Zax, ↓Zay, ↓Zaz, ↓Zba, ↓Zbb, ↓Zbc, ↓Zbd, ↓Zbe, ↓Zbf, ↓Zbg, ↓Zbh, ↓Zbi, ↓Zbj, ↓Zbk, ↓Zbl, ↓Zbm, ↓Zbn, ↓Zbo, ↓Zbp, ↓Zbq, ↓Zbr, ↓Zbs, ↓Zbt, ↓Zbu, ↓Zbv, ↓Zbw, ↓Zbx, ↓Zby, ↓Zbz, ↓Zca, ↓Zcb, ↓Zcc, ↓Zcd, ↓Zce, ↓Zcf, ↓Zcg, ↓Zch, ↓Zci, ↓Zcj, ↓Zck, ↓Zcl, ↓Zcm, ↓Zcn, ↓Zco, ↓Zcp, ↓Zcq, ↓Zcr, ↓Zcs, ↓Zct, ↓Zcu, ↓Zcv, ↓Zcw, ↓Zcx, ↓Zcy, ↓Zcz, ↓Zda, ↓Zdb, ↓Zdc, ↓Zdd, ↓Zde, ↓Zdf, ↓Zdg, ↓Zdh, ↓Zdi, ↓Zdj, ↓Zdk, ↓Zdl, ↓Zdm, ↓Zdn, ↓Zdo, ↓Zdp, ↓Zdq, ↓Zdr, ↓Zds, ↓Zdt, ↓Zdu, ↓Zdv, ↓Zdw, ↓Zdx, ↓Zdy, ↓Zdz, ↓Zea, ↓Zeb, ↓Zec, ↓Zed, ↓Zee, ↓Zef, ↓Zeg, ↓Zeh, ↓Zei, ↓Zej, ↓Zek, ↓Zel, ↓Zem, ↓Zen, ↓Zeo, ↓Zep, ↓Zeq, ↓Zer, ↓Zes, ↓Zet, ↓Zeu, ↓Zev, ↓Zew, ↓Zex, ↓Zey, ↓Zez, ↓Zfa, ↓Zfb, ↓Zfc, ↓Zfd, ↓Zfe, ↓Zff, ↓Zfg, ↓Zfh, ↓Zfi, ↓Zfj, ↓Zfk, ↓Zfl, ↓Zfm, ↓Zfn, ↓Zfo, ↓Zfp, ↓Zfq, ↓Zfr, ↓Zfs, ↓Zft, ↓Zfu, ↓Zfv, ↓Zfw, ↓Zfx, ↓Zfy, ↓Zfz, ↓Zga, ↓Zgb, ↓Zgc, ↓Zgd, ↓Zge, ↓Zgf, ↓Zgg, ↓Zgh, ↓Zgi, ↓Zgj, ↓Zgk, ↓Zgl, ↓Zgm, ↓Zgn, ↓Zgo, ↓Zgp, ↓Zgq, ↓Zgr, ↓Zgs, ↓Zgt, ↓Zgu, ↓Zgv, ↓Zgw, ↓Zgx, ↓Zgy, ↓Zgz, ↓Zha, ↓Zhb, ↓Zhc, ↓Zhd, ↓Zhe, ↓Zhf, ↓Zhg, ↓Zhh, ↓Zhi, ↓Zhj, ↓Zhk, ↓Zhl, ↓Zhm, ↓Zhn, ↓Zho, ↓Zhp, ↓Zhq, ↓Zhr, ↓Zhs, ↓Zht, ↓Zhu, ↓Zhv, ↓Zhw, ↓Zhx, ↓Zhy, ↓Zhz, ↓Zia, ↓Zib, ↓Zic, ↓Zid, ↓Zie, ↓Zif, ↓Zig, ↓Zih, ↓Zii, ↓Zij, ↓Zik, reduceIte, if_true, if_false, Bool.false_eq_true, Bool.and_true, Bool.true_and, Bool.and_false, Bool.false_and, Bool.or_true, Bool.true_or, Bool.or_false, Bool.false_or, Int.cast_ofNat_Int, Zil, Zim, beq_self_eq_true, Int.reduceBEq, Int.reduceLT, Int.reduceLE, Int.reduceEq, Int.reduceNeg, Nat.reduceLT, Zin, Zio, Ziq, Zir, Zis, Zit, Ziu, Ziv, Ziw, Zix, Ziy, Ziz, Zja, Zjb, Zjc, Zjd, Zje, Zjf, Zjg, Zjh, Zji, Zjj, Zjk, Zjl, Zjm, Zjn, Zjo, Zjp, Zjq, Zjr, Zjs, Zjt, Zju, Zjv, Zjw, Zjx, Zjy, Zjz, Zka, Zkb, Zkc, Zkd, Zke, Zkf, Zkg, Zkh, Zki, Zkj, Zkk, Zkl, Zkm, Zkn, Zko, Zkp, List.lookup_nil, Zkq, Zkr, Option.map_some, Option.map_none, Option.bind_some, Option.bind_none, List.map_nil, List.map_cons, List.nil_append, List.cons_append, List.append_nil, List.length_cons, List.length_nil, Nat.reduceAdd, Nat.reduceLeDiff, Nat.reduceEqDiff, Nat.reduceBEq, decide_true, decide_false, Bool.not_true, Bool.not_false, Zks, Zkt, Zku, Zkv, Zkw, Zkx, Zky, Zkz, Zla, Zlb, Zlc, Zld, Zle, Zlf, List.getElem?_cons_zero, List.getElem?_cons_succ, Zlg, Zlh, Zli, Zlj, Zlk, Zll, Zlm, Zln, Zlo, Zlp, Zlq, Zlr, Zls, Zlt, Zlu, Zlv, Zlw, Zlx, Zly, setX, Zlz, Zma, Zmb, Int.ofNat_lt, Int.ofNat_le, pv_len, q, pv_app]
            refine ⟨.val (.int c), .val (.int s.pv.length), .val (.lst (.int p :: rs)), .val (rowD L r), .val (rD (s.t p c)⁻¹), z10, z11, ?_, .val, .val, .val, .val, .val, q10, q11⟩
            rw [tb_ext (u := stepT s.t s.pv.length p c) fun k j hk hj => by rw [if_pos hk]]
            rfl
  · rintro e ⟨x3, x4, x5, x7, x8, x10, x11, rfl, y3, y4, y5, y7, y8, y10, y11⟩
    simp -implicitDefEqProofs -dsimp only [↓Zaa, ↓Zab, ↓Zac, ↓Zad, ↓Zae, ↓Zaf, ↓Zag, ↓Zah, ↓Zai, ↓Zaj, ↓Zak, ↓Zal, ↓Zam, ↓Zan, ↓Zao, ↓Zap, ↓Zaq, ↓Zar, ↓Zas, ↓Zat, ↓Zau, ↓Zav, ↓Zaw, ↓Zax, ↓Zay, ↓Zaz, ↓Zba, ↓Zbb, ↓Zbc, ↓Zbd, ↓Zbe, ↓Zbf, ↓Zbg, ↓Zbh, ↓Zbi, ↓Zbj, ↓Zbk, ↓Zbl, ↓Zbm, ↓Zbn, ↓Zbo, ↓Zbp, ↓Zbq, ↓Zbr, ↓Zbs, ↓Zbt, ↓Zbu, ↓Zbv, ↓Zbw, ↓Zbx, ↓Zby, ↓Zbz, ↓Zca, ↓Zcb, ↓Zcc, ↓Zcd, ↓Zce, ↓Zcf, ↓Zcg, ↓Zch, ↓Zci, ↓Zcj, ↓Zck, ↓Zcl, ↓Zcm, ↓Zcn, ↓Zco, ↓Zcp, ↓Zcq, ↓Zcr, ↓Zcs, ↓Zct, ↓Zcu, ↓Zcv, ↓Zcw, ↓Zcx, ↓Zcy, ↓Zcz, ↓Zda, ↓Zdb, ↓Zdc, ↓Zdd, ↓Zde, ↓Zdf, ↓Zdg, ↓Zdh, ↓Zdi, ↓Zdj, ↓Zdk, ↓Zdl, ↓Zdm, ↓Zdn, ↓Zdo, ↓Zdp, ↓Zdq, ↓Zdr, ↓Zds, ↓Zdt, ↓Zdu, ↓Zdv, ↓Zdw, ↓Zdx, ↓Zdy, ↓Zdz, ↓Zea, ↓Zeb, ↓Zec, ↓Zed, ↓Zee, ↓Zef, ↓Zeg, ↓Zeh, ↓Zei, ↓Zej, ↓Zek, ↓Zel, ↓Zem, ↓Zen, ↓Zeo, ↓Zep, ↓Zeq, ↓Zer, ↓Zes, ↓Zet, ↓Zeu, ↓Zev, ↓Zew, ↓Zex, ↓Zey, ↓Zez, ↓Zfa, ↓Zfb, ↓Zfc, ↓Zfd, ↓Zfe, ↓Zff, ↓Zfg, ↓Zfh, ↓Zfi, ↓Zfj, ↓Zfk, ↓Zfl, ↓Zfm, ↓Zfn, ↓Zfo, ↓Zfp, ↓Zfq, ↓Zfr, ↓Zfs, ↓Zft, ↓Zfu, ↓Zfv, ↓Zfw, ↓Zfx, ↓Zfy, ↓Zfz, ↓Zga, ↓Zgb, ↓Zgc, ↓Zgd, ↓Zge, ↓Zgf, ↓Zgg, ↓Zgh, ↓Zgi, ↓Zgj, ↓Zgk, ↓Zgl, ↓Zgm, ↓Zgn, ↓Zgo, ↓Zgp, ↓Zgq, ↓Zgr, ↓Zgs, ↓Zgt, ↓Zgu, ↓Zgv, ↓Zgw, ↓Zgx, ↓Zgy, ↓Zgz, ↓Zha, ↓Zhb, ↓Zhc, ↓Zhd, ↓Zhe, ↓Zhf, ↓Zhg, ↓Zhh, ↓Zhi, ↓Zhj, ↓Zhk, ↓Zhl, ↓Zhm, ↓Zhn, ↓Zho, ↓Zhp, ↓Zhq, ↓Zhr, ↓Zhs, ↓Zht, ↓Zhu, ↓Zhv, ↓Zhw, ↓Zhx, ↓Zhy, ↓Zhz, ↓Zia, ↓Zib, ↓Zic, ↓Zid, ↓Zie, ↓Zif, ↓Zig, ↓Zih, ↓Zii, ↓Zij, ↓Zik, reduceIte, if_true, if_false, Bool.false_eq_true, Bool.and_true, Bool.true_and, Bool.and_false, Bool.false_and, Bool.or_true, Bool.true_or, Bool.or_false, Bool.false_or, Int.cast_ofNat_Int, Zil, Zim, beq_self_eq_true, Int.reduceBEq, Int.reduceLT, Int.reduceLE, Int.reduceEq, Int.reduceNeg, Nat.reduceLT, Zin, Zio, Ziq, Zir, Zis, Zit, Ziu, Ziv, Ziw, Zix, Ziy, Ziz, Zja, Zjb, Zjc, Zjd, Zje, Zjf, Zjg, Zjh, Zji, Zjj, Zjk, Zjl, Zjm, Zjn, Zjo, Zjp, Zjq, Zjr, Zjs, Zjt, Zju, Zjv, Zjw, Zjx, Zjy, Zjz, Zka, Zkb, Zkc, Zkd, Zke, Zkf, Zkg, Zkh, Zki, Zkj, Zkk, Zkl, Zkm, Zkn, Zko, Zkp, List.lookup_nil, Zkq, Zkr, Option.map_some, Option.map_none, Option.bind_some, Option.bind_none, List.map_nil, List.map_cons, List.nil_append, List.cons_append, List.append_nil, List.length_cons, List.length_nil, Nat.reduceAdd, Nat.reduceLeDiff, Nat.reduceEqDiff, Nat.reduceBEq, decide_true, decide_false, Bool.not_true, Bool.not_false, Zks, Zkt, Zku, Zkv, Zkw, Zkx, Zky, Zkz, Zla, Zlb, Zlc, Zld, Zle, Zlf, List.getElem?_cons_zero, List.getElem?_cons_succ, Zlg, Zlh, Zli, Zlj, Zlk, Zll, Zlm, Zln, Zlo, Zlp, Zlq, Zlr, Zls, Zlt, Zlu, Zlv, Zlw, Zlx, Zly, setX, Zlz, Zma, Zmb, Int.ofNat_lt, Int.ofNat_le]
end L2.S.W

set_option Elab.async false
set_option linter.all false
set_option maxRecDepth 100000
set_option maxHeartbeats 8000000
namespace L2.S.W
open PySem PySem.Spec PyProof.Rows L2 L2.S
theorem m_minit {h w : Nat} {t : Nat → Nat → Rat} {R : Nat → D} (hr : ∀ i, i < h → bTup [R i] = some (.d (rowT w (t i)))) (hh : h ≤ 1000) : φ_Matrix_init [.own true (.s 1 []), .val (.lst (vec h R)), .val (.int w)] = .ok (.d .non) [(0, .s 1 [.tup (vec h fun i => rowT w (t i)), .int w])] := by
  apply run_Matrix_init
  unfold g_Matrix_init
  simp -implicitDefEqProofs -dsimp only [↓Zaa, ↓Zab, ↓Zac, ↓Zad, ↓Zae, ↓Zaf, ↓Zag, ↓Zah, ↓Zai, ↓Zaj, ↓Zak, ↓Zal, ↓Zam, ↓Zan, ↓Zao, ↓Zap, ↓Zaq, ↓Zar, ↓Zas, ↓Zat, ↓Zau, ↓Zav, ↓Zaw, ↓Zax, ↓Zay, ↓Zaz, ↓Zba, ↓Zbb, ↓Zbc, ↓Zbd, ↓Zbe, ↓Zbf, ↓Zbg, ↓Zbh, ↓Zbi, ↓Zbj, ↓Zbk, ↓Zbl, ↓Zbm, ↓Zbn, ↓Zbo, ↓Zbp, ↓Zbq, ↓Zbr, ↓Zbs, ↓Zbt, ↓Zbu, ↓Zbv, ↓Zbw, ↓Zbx, ↓Zby, ↓Zbz, ↓Zca, ↓Zcb, ↓Zcc, ↓Zcd, ↓Zce, ↓Zcf, ↓Zcg, ↓Zch, ↓Zci, ↓Zcj, ↓Zck, ↓Zcl, ↓Zcm, ↓Zcn, ↓Zco, ↓Zcp, ↓Zcq, ↓Zcr, ↓Zcs, ↓Zct, ↓Zcu, ↓Zcv, ↓Zcw, ↓Zcx, ↓Zcy, ↓Zcz, ↓Zda, ↓Zdb, ↓Zdc, ↓Zdd, ↓Zde, ↓Zdf, ↓Zdg, ↓Zdh, ↓Zdi, ↓Zdj, ↓Zdk, ↓Zdl, ↓Zdm, ↓Zdn, ↓Zdo, ↓Zdp, ↓Zdq, ↓Zdr, ↓Zds, ↓Zdt, ↓Zdu, ↓Zdv, ↓Zdw, ↓Zdx, ↓Zdy, ↓Zdz, ↓Zea, ↓Zeb, ↓Zec, ↓Zed, ↓Zee, ↓Zef, ↓Zeg, ↓Zeh, ↓Zei, ↓Zej, ↓Zek, ↓Zel, ↓Zem, ↓Zen, ↓Zeo, ↓Zep, ↓Zeq, ↓Zer, ↓Zes, ↓Zet, ↓Zeu, ↓Zev, ↓Zew, ↓Zex, ↓Zey, ↓Zez, ↓Zfa, ↓Zfb, ↓Zfc, ↓Zfd, ↓Zfe, ↓Zff, ↓Zfg, ↓Zfh, ↓Zfi, ↓Zfj, ↓Zfk, ↓Zfl, ↓Zfm, ↓Zfn, ↓Zfo, ↓Zfp, ↓Zfq, ↓Zfr, ↓Zfs, ↓Zft, ↓Zfu, ↓Zfv, ↓Zfw, ↓Zfx, ↓Zfy, ↓Zfz, ↓Zga, ↓Zgb, ↓Zgc, ↓Zgd, ↓Zge, ↓Zgf, ↓Zgg, ↓Zgh, ↓Zgi, ↓Zgj, ↓Zgk, ↓Zgl, ↓Zgm, ↓Zgn, ↓Zgo, ↓Zgp, ↓Zgq, ↓Zgr, ↓Zgs, ↓Zgt, ↓Zgu, ↓Zgv, ↓Zgw, ↓Zgx, ↓Zgy, ↓Zgz, ↓Zha, ↓Zhb, ↓Zhc, ↓Zhd, ↓Zhe, ↓Zhf, ↓Zhg, ↓Zhh, ↓Zhi, ↓Zhj, ↓Zhk, ↓Zhl, ↓Zhm, ↓Zhn, ↓Zho, ↓Zhp, ↓Zhq, ↓Zhr, ↓Zhs, ↓Zht, ↓Zhu, ↓Zhv, ↓Zhw, ↓Zhx, ↓Zhy, ↓Zhz, ↓Zia, ↓Zib, ↓Zic, ↓Zid, ↓Zie, ↓Zif, ↓Zig, ↓Zih, ↓Zii, ↓Zij, ↓Zik, reduceIte, if_true, if_false, Bool.false_eq_true, Bool.and_true, Bool.true_and, Bool.and_false, Bool.false_and, Bool.or_true, Bool.true_or, Bool.or_false, Bool.false_or, Int.cast_ofNat_Int, Zil, Zim, beq_self_eq_true, Int.reduceBEq, Int.reduceLT, Int.reduceLE, Int.reduceEq, Int.reduceNeg, Nat.reduceLT, Zin, Zio, Ziq, Zir, Zis, Zit, Ziu, Ziv, Ziw, Zix, Ziy, Ziz, Zja, Zjb, Zjc, Zjd, Zje, Zjf, Zjg, Zjh, Zji, Zjj, Zjk, Zjl, Zjm, Zjn, Zjo, Zjp, Zjq, Zjr, Zjs, Zjt, Zju, Zjv, Zjw, Zjx, Zjy, Zjz, Zka, Zkb, Zkc, Zkd, Zke, Zkf, Zkg, Zkh, Zki, Zkj, Zkk, Zkl, Zkm, Zkn, Zko, Zkp, List.lookup_nil, Zkq, Zkr, Option.map_some, Option.map_none, Option.bind_some, Option.bind_none, List.map_nil, List.map_cons, List.nil_append, List.cons_append, List.append_nil, List.length_cons, List.length_nil, Nat.reduceAdd, Nat.reduceLeDiff, Nat.reduceEqDiff, Nat.reduceBEq, decide_true, decide_false, Bool.not_true, Bool.not_false, Zks, Zkt, Zku, Zkv, Zkw, Zkx, Zky, Zkz, Zla, Zlb, Zlc, Zld, Zle, Zlf, List.getElem?_cons_zero, List.getElem?_cons_succ, Zlg, Zlh, Zli, Zlj, Zlk, Zll, Zlm, Zln, Zlo, Zlp, Zlq, Zlr, Zls, Zlt, Zlu, Zlv, Zlw, Zlx, Zly, setX, Zlz, Zma, Zmb, Int.ofNat_lt, Int.ofNat_le]
  refine lc_vec (fun i => rowT w (t i)) rfl (by simp only [wipeE, List.set_cons_zero, List.set_cons_succ]; rfl) (by omega) (fun i hi => ?_) ?_
  · simp -implicitDefEqProofs -dsimp only [↓Zaa, ↓Zab, ↓Zac, ↓Zad, ↓Zae, ↓Zaf, ↓Zag, ↓Zah, ↓Zai, ↓Zaj, ↓Zak, ↓Zal, ↓Zam, ↓Zan, ↓Zao, ↓Zap, ↓Zaq, ↓Zar, ↓Zas, ↓Zat, ↓Zau, ↓Zav, ↓Zaw, ↓Zax, ↓Zay, ↓Zaz, ↓Zba, ↓Zbb, ↓Zbc, ↓Zbd, ↓Zbe, ↓Zbf, ↓Zbg, ↓Zbh, ↓Zbi, ↓Zbj, ↓Zbk, ↓Zbl, ↓Zbm, ↓Zbn, ↓Zbo, ↓Zbp, ↓Zbq, ↓Zbr, ↓Zbs, ↓Zbt, ↓Zbu, ↓Zbv, ↓Zbw, ↓Zbx, ↓Zby, ↓Zbz, ↓Zca, ↓Zcb, ↓Zcc, ↓Zcd, ↓Zce, ↓Zcf, ↓Zcg, ↓Zch, ↓Zci, ↓Zcj, ↓Zck, ↓Zcl, ↓Zcm, ↓Zcn, ↓Zco, ↓Zcp, ↓Zcq, ↓Zcr, ↓Zcs, ↓Zct, ↓Zcu, ↓Zcv, ↓Zcw, ↓Zcx, ↓Zcy, ↓Zcz, ↓Zda, ↓Zdb, ↓Zdc, ↓Zdd, ↓Zde, ↓Zdf, ↓Zdg, ↓Zdh, ↓Zdi, ↓Zdj, ↓Zdk, ↓Zdl, ↓Zdm, ↓Zdn, ↓Zdo, ↓Zdp, ↓Zdq, ↓Zdr, ↓Zds, ↓Zdt, ↓Zdu, ↓Zdv, ↓Zdw, ↓Zdx, ↓Zdy, ↓Zdz, ↓Zea, ↓Zeb, ↓Zec, ↓Zed, ↓Zee, ↓Zef, ↓Zeg, ↓Zeh, ↓Zei, ↓Zej, ↓Zek, ↓Zel, ↓Zem, ↓Zen, ↓Zeo, ↓Zep, ↓Zeq, ↓Zer, ↓Zes, ↓Zet, ↓Zeu, ↓Zev, ↓Zew, ↓Zex, ↓Zey, ↓Zez, ↓Zfa, ↓Zfb, ↓Zfc, ↓Zfd, ↓Zfe, ↓Zff, ↓Zfg, ↓Zfh, ↓Zfi, ↓Zfj, ↓Zfk, ↓Zfl, ↓Zfm, ↓Zfn, ↓Zfo, ↓Zfp, ↓Zfq, ↓Zfr, ↓Zfs, ↓Zft, ↓Zfu, ↓Zfv, ↓Zfw, ↓Zfx, ↓Zfy, ↓Zfz, ↓Zga, ↓Zgb, ↓Zgc, ↓Zgd, ↓Zge, ↓Zgf, ↓Zgg, ↓Zgh, ↓Zgi, ↓Zgj, ↓Zgk, ↓Zgl, ↓Zgm, ↓Zgn, ↓Zgo, ↓Zgp, ↓Zgq, ↓Zgr, ↓Zgs, ↓Zgt, ↓Zgu, ↓Zgv, ↓Zgw, ↓Zgx, ↓Zgy, ↓Zgz, ↓Zha, ↓Zhb, ↓Zhc, ↓Zhd, ↓Zhe, ↓Zhf, ↓Zhg, ↓Zhh, ↓Zhi, ↓Zhj, ↓Zhk, ↓Zhl, ↓Zhm, ↓Zhn, ↓Zho, ↓Zhp, ↓Zhq, ↓Zhr, ↓Zhs, ↓Zht, ↓Zhu, ↓Zhv, ↓Zhw, ↓Zhx, ↓Zhy, ↓Zhz, ↓Zia, ↓Zib, ↓Zic, ↓Zid, ↓Zie, ↓Zif, ↓Zig, ↓Zih, ↓Zii, ↓Zij, ↓Zik, reduceIte, if_true, if_false, Bool.false_eq_true, Bool.and_true, Bool.true_and, Bool.and_false, Bool.false_and, Bool.or_true, Bool.true_or, Bool.or_false, Bool.false_or, Int.cast_ofNat_Int, Zil, Zim, beq_self_eq_true, Int.reduceBEq, Int.reduceLT, Int.reduceLE, Int.reduceEq, Int.reduceNeg, Nat.reduceLT, Zin, Zio, Ziq, Zir, Zis, Zit, Ziu, Ziv, Ziw, Zix, Ziy, Ziz, Zja, Zjb, Zjc, Zjd, Zje, Zjf, Zjg, Zjh, Zji, Zjj, Zjk, Zjl, Zjm, Zjn, Zjo, Zjp, Zjq, Zjr, Zjs, Zjt, Zju, Zjv, Zjw, Zjx, Zjy, Zjz, Zka, Zkb, Zkc, Zkd, Zke, Zkf, Zkg, Zkh, Zki, Zkj, Zkk, Zkl, Zkm, Zkn, Zko, Zkp, List.lookup_nil, Zkq, Zkr, Option.map_some, Option.map_none, Option.bind_some, Option.bind_none, List.map_nil, List.map_cons, List.nil_append, List.cons_append, List.append_nil, List.length_cons, List.length_nil, Nat.reduceAdd, Nat.reduceLeDiff, Nat.reduceEqDiff, Nat.reduceBEq, decide_true, decide_false, Bool.not_true, Bool.not_false, Zks, Zkt, Zku, Zkv, Zkw, Zkx, Zky, Zkz, Zla, Zlb, Zlc, Zld, Zle, Zlf, List.getElem?_cons_zero, List.getElem?_cons_succ, Zlg, Zlh, Zli, Zlj, Zlk, Zll, Zlm, Zln, Zlo, Zlp, Zlq, Zlr, Zls, Zlt, Zlu, Zlv, Zlw, Zlx, Zly, setX, Zlz, Zma, Zmb, Int.ofNat_lt, Int.ofNat_le, hr i hi]
    exact ⟨rfl, rfl, trivial⟩
  · simp -implicitDefEqProofs -dsimp only [↓Zaa, ↓Zab, ↓Zac, ↓Zad, ↓Zae, ↓Zaf, ↓Zag, ↓Zah, ↓Zai, ↓Zaj, ↓Zak, ↓Zal, ↓Zam, ↓Zan, ↓Zao, ↓Zap, ↓Zaq, ↓Zar, ↓Zas, ↓Zat, ↓Zau, ↓Zav, ↓Zaw, ↓Zax, ↓Zay, ↓Zaz, ↓Zba, ↓Zbb, ↓Zbc, ↓Zbd, ↓Zbe, ↓Zbf, ↓Zbg, ↓Zbh, ↓Zbi, ↓Zbj, ↓Zbk, ↓Zbl, ↓Zbm, ↓Zbn, ↓Zbo, ↓Zbp, ↓Zbq, ↓Zbr, ↓Zbs, ↓Zbt, ↓Zbu, ↓Zbv, ↓Zbw, ↓Zbx, ↓Zby, ↓Zbz, ↓Zca, ↓Zcb, ↓Zcc, ↓Zcd, ↓Zce, ↓Zcf, ↓Zcg, ↓Zch, ↓Zci, ↓Zcj, ↓Zck, ↓Zcl, ↓Zcm, ↓Zcn, ↓Zco, ↓Zcp, ↓Zcq, ↓Zcr, ↓Zcs, ↓Zct, ↓Zcu, ↓Zcv, ↓Zcw, ↓Zcx, ↓Zcy, ↓Zcz, ↓Zda, ↓Zdb, ↓Zdc, ↓Zdd, ↓Zde, ↓Zdf, ↓Zdg, ↓Zdh, ↓Zdi, ↓Zdj, ↓Zdk, ↓Zdl, ↓Zdm, ↓Zdn, ↓Zdo, ↓Zdp, ↓Zdq, ↓Zdr, ↓Zds, ↓Zdt, ↓Zdu, ↓Zdv, ↓Zdw, ↓Zdx, ↓Zdy, ↓Zdz, ↓Zea, ↓Zeb, ↓Zec, ↓Zed, ↓Zee, ↓Zef, ↓Zeg, ↓Zeh, ↓Zei, ↓Zej, ↓Zek, ↓Zel, ↓Zem, ↓Zen, ↓Zeo, ↓Zep, ↓Zeq, ↓Zer, ↓Zes, ↓Zet, ↓Zeu, ↓Zev, ↓Zew, ↓Zex, ↓Zey, ↓Zez, ↓Zfa, ↓Zfb, ↓Zfc, ↓Zfd, ↓Zfe, ↓Zff, ↓Zfg, ↓Zfh, ↓Zfi, ↓Zfj, ↓Zfk, ↓Zfl, ↓Zfm, ↓Zfn, ↓Zfo, ↓Zfp, ↓Zfq, ↓Zfr, ↓Zfs, ↓Zft, ↓Zfu, ↓Zfv, ↓Zfw, ↓Zfx, ↓Zfy, ↓Zfz, ↓Zga, ↓Zgb, ↓Zgc, ↓Zgd, ↓Zge, ↓Zgf, ↓Zgg, ↓Zgh, ↓Zgi, ↓Zgj, ↓Zgk, ↓Zgl, ↓Zgm, ↓Zgn, ↓Zgo, ↓Zgp, ↓Zgq, ↓Zgr, ↓Zgs, ↓Zgt, ↓Zgu, ↓Zgv, ↓Zgw, ↓Zgx, ↓Zgy, ↓Zgz, ↓Zha, ↓Zhb, ↓Zhc, ↓Zhd, ↓Zhe, ↓Zhf, ↓Zhg, ↓Zhh, ↓Zhi, ↓Zhj, ↓Zhk, ↓Zhl, ↓Zhm, ↓Zhn, ↓Zho, ↓Zhp, ↓Zhq, ↓Zhr, ↓Zhs, ↓Zht, ↓Zhu, ↓Zhv, ↓Zhw, ↓Zhx, ↓Zhy, ↓Zhz, ↓Zia, ↓Zib, ↓Zic, ↓Zid, ↓Zie, ↓Zif, ↓Zig, ↓Zih, ↓Zii, ↓Zij, ↓Zik, reduceIte, if_true, if_false, Bool.false_eq_true, Bool.and_true, Bool.true_and, Bool.and_false, Bool.false_and, Bool.or_true, Bool.true_or, Bool.or_false, Bool.false_or, Int.cast_ofNat_Int, Zil, Zim, beq_self_eq_true, Int.reduceBEq, Int.reduceLT, Int.reduceLE, Int.reduceEq, Int.reduceNeg, Nat.reduceLT, Zin, Zio, Ziq, Zir, Zis, Zit, Ziu, Ziv, Ziw, Zix, Ziy, Ziz, Zja, Zjb, Zjc, Zjd, Zje, Zjf, Zjg, Zjh, Zji, Zjj, Zjk, Zjl, Zjm, Zjn, Zjo, Zjp, Zjq, Zjr, Zjs, Zjt, Zju, Zjv, Zjw, Zjx, Zjy, Zjz, Zka, Zkb, Zkc, Zkd, Zke, Zkf, Zkg, Zkh, Zki, Zkj, Zkk, Zkl, Zkm, Zkn, Zko, Zkp, List.lookup_nil, Zkq, Zkr, Option.map_some, Option.map_none, Option.bind_some, Option.bind_none, List.map_nil, List.map_cons, List.nil_append, List.cons_append, List.append_nil, List.length_cons, List.length_nil, Nat.reduceAdd, Nat.reduceLeDiff, Nat.reduceEqDiff, Nat.reduceBEq, decide_true, decide_false, Bool.not_true, Bool.not_false, Zks, Zkt, Zku, Zkv, Zkw, Zkx, Zky, Zkz, Zla, Zlb, Zlc, Zld, Zle, Zlf, List.getElem?_cons_zero, List.getElem?_cons_succ, Zlg, Zlh, Zli, Zlj, Zlk, Zll, Zlm, Zln, Zlo, Zlp, Zlq, Zlr, Zls, Zlt, Zlu, Zlv, Zlw, Zlx, Zly, setX, Zlz, Zma, Zmb, Int.ofNat_lt, Int.ofNat_le, (rfl : ([] : List D).length = 0), (rfl : [D.tup (vec h fun i => rowT w (t i))].length = 1)]
theorem m_minitD {h w : Nat} {t : Nat → Nat → Rat} (hh : h ≤ 1000) : φ_Matrix_init [.own true (.s 1 []), .val (.lst (tbD h w t)), .val (.int w)] = .ok (.d .non) [(0, .s 1 [.tup (vec h fun i => rowT w (t i)), .int w])] := by
  rw [← tbD_eq]
  exact m_minit (fun i _ => Zjq) hh
theorem l_tomat {h w : Nat} {t : Nat → Nat → Rat} (hh : h ≤ 1000) (hw : w ≤ 1000) : φ_law_to_matrix [.val (.tup (vec h fun i => rowP w (t i))), .val (.int w)] = .ok (.d (mD h w t)) [] := by
  apply run_law_to_matrix
  unfold g_law_to_matrix
  simp -implicitDefEqProofs -dsimp only [↓Zaa, ↓Zab, ↓Zac, ↓Zad, ↓Zae, ↓Zaf, ↓Zag, ↓Zah, ↓Zai, ↓Zaj, ↓Zak, ↓Zal, ↓Zam, ↓Zan, ↓Zao, ↓Zap, ↓Zaq, ↓Zar, ↓Zas, ↓Zat, ↓Zau, ↓Zav, ↓Zaw, ↓Zax, ↓Zay, ↓Zaz, ↓Zba, ↓Zbb, ↓Zbc, ↓Zbd, ↓Zbe, ↓Zbf, ↓Zbg, ↓Zbh, ↓Zbi, ↓Zbj, ↓Zbk, ↓Zbl, ↓Zbm, ↓Zbn, ↓Zbo, ↓Zbp, ↓Zbq, ↓Zbr, ↓Zbs, ↓Zbt, ↓Zbu, ↓Zbv, ↓Zbw, ↓Zbx, ↓Zby, ↓Zbz, ↓Zca, ↓Zcb, ↓Zcc, ↓Zcd, ↓Zce, ↓Zcf, ↓Zcg, ↓Zch, ↓Zci, ↓Zcj, ↓Zck, ↓Zcl, ↓Zcm, ↓Zcn, ↓Zco, ↓Zcp, ↓Zcq, ↓Zcr, ↓Zcs, ↓Zct, ↓Zcu, ↓Zcv, ↓Zcw, ↓Zcx, ↓Zcy, ↓Zcz, ↓Zda, ↓Zdb, ↓Zdc, ↓Zdd, ↓Zde, ↓Zdf, ↓Zdg, ↓Zdh, ↓Zdi, ↓Zdj, ↓Zdk, ↓Zdl, ↓Zdm, ↓Zdn, ↓Zdo, ↓Zdp, ↓Zdq, ↓Zdr, ↓Zds, ↓Zdt, ↓Zdu, ↓Zdv, ↓Zdw, ↓Zdx, ↓Zdy, ↓Zdz, ↓Zea, ↓Zeb, ↓Zec, ↓Zed, ↓Zee, ↓Zef, ↓Zeg, ↓Zeh, ↓Zei, ↓Zej, ↓Zek, ↓Zel, ↓Zem, ↓Zen, ↓Zeo, ↓Zep, ↓Zeq, ↓Zer, ↓Zes, ↓Zet, ↓Zeu, ↓Zev, ↓Zew, ↓Zex, ↓Zey, ↓Zez, ↓Zfa, ↓Zfb, ↓Zfc, ↓Zfd, ↓Zfe, ↓Zff, ↓Zfg, ↓Zfh, ↓Zfi, ↓Zfj, ↓Zfk, ↓Zfl, ↓Zfm, ↓Zfn, ↓Zfo, ↓Zfp, ↓Zfq, ↓Zfr, ↓Zfs, ↓Zft, ↓Zfu, ↓Zfv, ↓Zfw, ↓Zfx, ↓Zfy, ↓Zfz, ↓Zga, ↓Zgb, ↓Zgc, ↓Zgd, ↓Zge, ↓Zgf, ↓Zgg, ↓Zgh, ↓Zgi, ↓Zgj, ↓Zgk, ↓Zgl, ↓Zgm, ↓Zgn, ↓Zgo, ↓Zgp, ↓Zgq, ↓Zgr, ↓Zgs, ↓Zgt, ↓Zgu, ↓Zgv, ↓Zgw, ↓Zgx, ↓Zgy, ↓Zgz, ↓Zha, ↓Zhb, ↓Zhc, ↓Zhd, ↓Zhe, ↓Zhf, ↓Zhg, ↓Zhh, ↓Zhi, ↓Zhj, ↓Zhk, ↓Zhl, ↓Zhm, ↓Zhn, ↓Zho, ↓Zhp, ↓Zhq, ↓Zhr, ↓Zhs, ↓Zht, ↓Zhu, ↓Zhv, ↓Zhw, ↓Zhx, ↓Zhy, ↓Zhz, ↓Zia, ↓Zib, ↓Zic, ↓Zid, ↓Zie, ↓Zif, ↓Zig, ↓Zih, ↓Zii, ↓Zij, ↓Zik, reduceIte, if_true, if_false, Bool.false_eq_true, Bool.and_true, Bool.true_and, Bool.and_false, Bool.false_and, Bool.or_true, Bool.true_or, Bool.or_false, Bool.false_or, Int.cast_ofNat_Int, Zil, Zim, beq_self_eq_true, Int.reduceBEq, Int.reduceLT, Int.reduceLE, Int.reduceEq, Int.reduceNeg, Nat.reduceLT, Zin, Zio, Ziq, Zir, Zis, Zit, Ziu, Ziv, Ziw, Zix, Ziy, Ziz, Zja, Zjb, Zjc, Zjd, Zje, Zjf, Zjg, Zjh, Zji, Zjj, Zjk, Zjl, Zjm, Zjn, Zjo, Zjp, Zjq, Zjr, Zjs, Zjt, Zju, Zjv, Zjw, Zjx, Zjy, Zjz, Zka, Zkb, Zkc, Zkd, Zke, Zkf, Zkg, Zkh, Zki, Zkj, Zkk, Zkl, Zkm, Zkn, Zko, Zkp, List.lookup_nil, Zkq, Zkr, Option.map_some, Option.map_none, Option.bind_some, Option.bind_none, List.map_nil, List.map_cons, List.nil_append, List.cons_append, List.append_nil, List.length_cons, List.length_nil, Nat.reduceAdd, Nat.reduceLeDiff, Nat.reduceEqDiff, Nat.reduceBEq, decide_true, decide_false, Bool.not_true, Bool.not_false, Zks, Zkt, Zku, Zkv, Zkw, Zkx, Zky, Zkz, Zla, Zlb, Zlc, Zld, Zle, Zlf, List.getElem?_cons_zero, List.getElem?_cons_succ, Zlg, Zlh, Zli, Zlj, Zlk, Zll, Zlm, Zln, Zlo, Zlp, Zlq, Zlr, Zls, Zlt, Zlu, Zlv, Zlw, Zlx, Zly, setX, Zlz, Zma, Zmb, Int.ofNat_lt, Int.ofNat_le]
  refine lc_vec (fun i => rowT w (t i)) rfl (by simp only [wipeE, List.set_cons_zero, List.set_cons_succ]; rfl) (by omega) (fun i hi => ?_) ?_
  · simp -implicitDefEqProofs -dsimp only [↓Zaa, ↓Zab, ↓Zac, ↓Zad, ↓Zae, ↓Zaf, ↓Zag, ↓Zah, ↓Zai, ↓Zaj, ↓Zak, ↓Zal, ↓Zam, ↓Zan, ↓Zao, ↓Zap, ↓Zaq, ↓Zar, ↓Zas, ↓Zat, ↓Zau, ↓Zav, ↓Zaw, ↓Zax, ↓Zay, ↓Zaz, ↓Zba, ↓Zbb, ↓Zbc, ↓Zbd, ↓Zbe, ↓Zbf, ↓Zbg, ↓Zbh, ↓Zbi, ↓Zbj, ↓Zbk, ↓Zbl, ↓Zbm, ↓Zbn, ↓Zbo, ↓Zbp, ↓Zbq, ↓Zbr, ↓Zbs, ↓Zbt, ↓Zbu, ↓Zbv, ↓Zbw, ↓Zbx, ↓Zby, ↓Zbz, ↓Zca, ↓Zcb, ↓Zcc, ↓Zcd, ↓Zce, ↓Zcf, ↓Zcg, ↓Zch, ↓Zci, ↓Zcj, ↓Zck, ↓Zcl, ↓Zcm, ↓Zcn, ↓Zco, ↓Zcp, ↓Zcq, ↓Zcr, ↓Zcs, ↓Zct, ↓Zcu, ↓Zcv, ↓Zcw, ↓Zcx, ↓Zcy, ↓Zcz, ↓Zda, ↓Zdb, ↓Zdc, ↓Zdd, ↓Zde, ↓Zdf, ↓Zdg, ↓Zdh, ↓Zdi, ↓Zdj, ↓Zdk, ↓Zdl, ↓Zdm, ↓Zdn, ↓Zdo, ↓Zdp, ↓Zdq, ↓Zdr, ↓Zds, ↓Zdt, ↓Zdu, ↓Zdv, ↓Zdw, ↓Zdx, ↓Zdy, ↓Zdz, ↓Zea, ↓Zeb, ↓Zec, ↓Zed, ↓Zee, ↓Zef, ↓Zeg, ↓Zeh, ↓Zei, ↓Zej, ↓Zek, ↓Zel, ↓Zem, ↓Zen, ↓Zeo, ↓Zep, ↓Zeq, ↓Zer, ↓Zes, ↓Zet, ↓Zeu, ↓Zev, ↓Zew, ↓Zex, ↓Zey, ↓Zez, ↓Zfa, ↓Zfb, ↓Zfc, ↓Zfd, ↓Zfe, ↓Zff, ↓Zfg, ↓Zfh, ↓Zfi, ↓Zfj, ↓Zfk, ↓Zfl, ↓Zfm, ↓Zfn, ↓Zfo, ↓Zfp, ↓Zfq, ↓Zfr, ↓Zfs, ↓Zft, ↓Zfu, ↓Zfv, ↓Zfw, ↓Zfx, ↓Zfy, ↓Zfz, ↓Zga, ↓Zgb, ↓Zgc, ↓Zgd, ↓Zge, ↓Zgf, ↓Zgg, ↓Zgh, ↓Zgi, ↓Zgj, ↓Zgk, ↓Zgl, ↓Zgm, ↓Zgn, ↓Zgo, ↓Zgp, ↓Zgq, ↓Zgr, ↓Zgs, ↓Zgt, ↓Zgu, ↓Zgv, ↓Zgw, ↓Zgx, ↓Zgy, ↓Zgz, ↓Zha, ↓Zhb, ↓Zhc, ↓Zhd, ↓Zhe, ↓Zhf, ↓Zhg, ↓Zhh, ↓Zhi, ↓Zhj, ↓Zhk, ↓Zhl, ↓Zhm, ↓Zhn, ↓Zho, ↓Zhp, ↓Zhq, ↓Zhr, ↓Zhs, ↓Zht, ↓Zhu, ↓Zhv, ↓Zhw, ↓Zhx, ↓Zhy, ↓Zhz, ↓Zia, ↓Zib, ↓Zic, ↓Zid, ↓Zie, ↓Zif, ↓Zig, ↓Zih, ↓Zii, ↓Zij, ↓Zik, reduceIte, if_true, if_false, Bool.false_eq_true, Bool.and_true, Bool.true_and, Bool.and_false, Bool.false_and, Bool.or_true, Bool.true_or, Bool.or_false, Bool.false_or, Int.cast_ofNat_Int, Zil, Zim, beq_self_eq_true, Int.reduceBEq, Int.reduceLT, Int.reduceLE, Int.reduceEq, Int.reduceNeg, Nat.reduceLT, Zin, Zio, Ziq, Zir, Zis, Zit, Ziu, Ziv, Ziw, Zix, Ziy, Ziz, Zja, Zjb, Zjc, Zjd, Zje, Zjf, Zjg, Zjh, Zji, Zjj, Zjk, Zjl, Zjm, Zjn, Zjo, Zjp, Zjq, Zjr, Zjs, Zjt, Zju, Zjv, Zjw, Zjx, Zjy, Zjz, Zka, Zkb, Zkc, Zkd, Zke, Zkf, Zkg, Zkh, Zki, Zkj, Zkk, Zkl, Zkm, Zkn, Zko, Zkp, List.lookup_nil, Zkq, Zkr, Option.map_some, Option.map_none, Option.bind_some, Option.bind_none, List.map_nil, List.map_cons, List.nil_append, List.cons_append, List.append_nil, List.length_cons, List.length_nil, Nat.reduceAdd, Nat.reduceLeDiff, Nat.reduceEqDiff, Nat.reduceBEq, decide_true, decide_false, Bool.not_true, Bool.not_false, Zks, Zkt, Zku, Zkv, Zkw, Zkx, Zky, Zkz, Zla, Zlb, Zlc, Zld, Zle, Zlf, List.getElem?_cons_zero, List.getElem?_cons_succ, Zlg, Zlh, Zli, Zlj, Zlk, Zll, Zlm, Zln, Zlo, Zlp, Zlq, Zlr, Zls, Zlt, Zlu, Zlv, Zlw, Zlx, Zly, setX, Zlz, Zma, Zmb, Int.ofNat_lt, Int.ofNat_le, l_ratios hw]
    exact ⟨rfl, rfl, trivial⟩
  · have q := m_minit (h := h) (w := w) (t := t) (R := fun i => rowT w (t i)) (fun i _ => Zjp) hh
    simp -implicitDefEqProofs -dsimp only [↓Zaa, ↓Zab, ↓Zac, ↓Zad, ↓Zae, ↓Zaf, ↓Zag, ↓Zah, ↓Zai, ↓Zaj, ↓Zak, ↓Zal, ↓Zam, ↓Zan, ↓Zao, ↓Zap, ↓Zaq, ↓Zar, ↓Zas, ↓Zat, ↓Zau, ↓Zav, ↓Zaw, ↓Zax, ↓Zay, ↓Zaz, ↓Zba, ↓Zbb, ↓Zbc, ↓Zbd, ↓Zbe, ↓Zbf, ↓Zbg, ↓Zbh, ↓Zbi, ↓Zbj, ↓Zbk, ↓Zbl, ↓Zbm, ↓Zbn, ↓Zbo, ↓Zbp, ↓Zbq, ↓Zbr, ↓Zbs, ↓Zbt, ↓Zbu, ↓Zbv, ↓Zbw, ↓Zbx, ↓Zby, ↓Zbz, ↓Zca, ↓Zcb, ↓Zcc, ↓Zcd, ↓Zce, ↓Zcf, ↓Zcg, ↓Zch, ↓Zci, ↓Zcj, ↓Zck, ↓Zcl, ↓Zcm, ↓Zcn, ↓Zco, ↓Zcp, ↓Zcq, ↓Zcr, ↓Zcs, ↓Zct, ↓Zcu, ↓Zcv, ↓Zcw, ↓Zcx, ↓Zcy, ↓Zcz, ↓Zda, ↓Zdb, ↓Zdc, ↓Zdd, ↓Zde, ↓Zdf, ↓Zdg, ↓Zdh, ↓Zdi, ↓Zdj, ↓Zdk, ↓Zdl, ↓Zdm, ↓Zdn, ↓Zdo, ↓Zdp, ↓Zdq, ↓Zdr, ↓Zds, ↓Zdt, ↓Zdu, ↓Zdv, ↓Zdw, ↓Zdx, ↓Zdy, ↓Zdz, ↓Zea, ↓Zeb, ↓Zec, ↓Zed, ↓Zee, ↓Zef, ↓Zeg, ↓Zeh, ↓Zei, ↓Zej, ↓Zek, ↓Zel, ↓Zem, ↓Zen, ↓Zeo, ↓Zep, ↓Zeq, ↓Zer, ↓Zes, ↓Zet, ↓Zeu, ↓Zev, ↓Zew, ↓Zex, ↓Zey, ↓Zez, ↓Zfa, ↓Zfb, ↓Zfc, ↓Zfd, ↓Zfe, ↓Zff, ↓Zfg, ↓Zfh, ↓Zfi, ↓Zfj, ↓Zfk, ↓Zfl, ↓Zfm, ↓Zfn, ↓Zfo, ↓Zfp, ↓Zfq, ↓Zfr, ↓Zfs, ↓Zft, ↓Zfu, ↓Zfv, ↓Zfw, ↓Zfx, ↓Zfy, ↓Zfz, ↓Zga, ↓Zgb, ↓Zgc, ↓Zgd, ↓Zge, ↓Zgf, ↓Zgg, ↓Zgh, ↓Zgi, ↓Zgj, ↓Zgk, ↓Zgl, ↓Zgm, ↓Zgn, ↓Zgo, ↓Zgp, ↓Zgq, ↓Zgr, ↓Zgs, ↓Zgt, ↓Zgu, ↓Zgv, ↓Zgw, ↓Zgx, ↓Zgy, ↓Zgz, ↓Zha, ↓Zhb, ↓Zhc, ↓Zhd, ↓Zhe, ↓Zhf, ↓Zhg, ↓Zhh, ↓Zhi, ↓Zhj, ↓Zhk, ↓Zhl, ↓Zhm, ↓Zhn, ↓Zho, ↓Zhp, ↓Zhq, ↓Zhr, ↓Zhs, ↓Zht, ↓Zhu, ↓Zhv, ↓Zhw, ↓Zhx, ↓Zhy, ↓Zhz, ↓Zia, ↓Zib, ↓Zic, ↓Zid, ↓Zie, ↓Zif, ↓Zig, ↓Zih, ↓Zii, ↓Zij, ↓Zik, reduceIte, if_true, if_false, Bool.false_eq_true, Bool.and_true, Bool.true_and, Bool.and_false, Bool.false_and, Bool.or_true, Bool.true_or, Bool.or_false, Bool.false_or, Int.cast_ofNat_Int, Zil, Zim, beq_self_eq_true, Int.reduceBEq, Int.reduceLT, Int.reduceLE, Int.reduceEq, Int.reduceNeg, Nat.reduceLT, Zin, Zio, Ziq, Zir, Zis, Zit, Ziu, Ziv, Ziw, Zix, Ziy, Ziz, Zja, Zjb, Zjc, Zjd, Zje, Zjf, Zjg, Zjh, Zji, Zjj, Zjk, Zjl, Zjm, Zjn, Zjo, Zjp, Zjq, Zjr, Zjs, Zjt, Zju, Zjv, Zjw, Zjx, Zjy, Zjz, Zka, Zkb, Zkc, Zkd, Zke, Zkf, Zkg, Zkh, Zki, Zkj, Zkk, Zkl, Zkm, Zkn, Zko, Zkp, List.lookup_nil, Zkq, Zkr, Option.map_some, Option.map_none, Option.bind_some, Option.bind_none, List.map_nil, List.map_cons, List.nil_append, List.cons_append, List.append_nil, List.length_cons, List.length_nil, Nat.reduceAdd, Nat.reduceLeDiff, Nat.reduceEqDiff, Nat.reduceBEq, decide_true, decide_false, Bool.not_true, Bool.not_false, Zks, Zkt, Zku, Zkv, Zkw, Zkx, Zky, Zkz, Zla, Zlb, Zlc, Zld, Zle, Zlf, List.getElem?_cons_zero, List.getElem?_cons_succ, Zlg, Zlh, Zli, Zlj, Zlk, Zll, Zlm, Zln, Zlo, Zlp, Zlq, Zlr, Zls, Zlt, Zlu, Zlv, Zlw, Zlx, Zly, setX, Zlz, Zma, Zmb, Int.ofNat_lt, Int.ofNat_le, q]
theorem m_reduced {h w K : Nat} {t : Nat → Nat → Rat} (hw : w ≤ 1000) (hh : h ≤ 1000) (hK : 0 < K) (hs : ∀ i j, i < h → j < w → Sz K (t i j)) (l : K * 5 ^ w ≤ 5000000) : φ_Matrix_reduced [.val (mD h w t)] = .ok (.d (.tup [mD (elim h t w).pv.length w (elim h t w).t, .tup (pvD (elim h t w).pv)])) [] := by
  apply run_Matrix_reduced
  unfold g_Matrix_reduced
  simp -implicitDefEqProofs -dsimp only [↓Zaa, ↓Zab, ↓Zac, ↓Zad, ↓Zae, ↓Zaf, ↓Zag, ↓Zah, ↓Zai, ↓Zaj, ↓Zak, ↓Zal, ↓Zam, ↓Zan, ↓Zao, ↓Zap, ↓Zaq, ↓Zar, ↓Zas, ↓Zat, ↓Zau, ↓Zav, ↓Zaw, ↓Zax, ↓Zay, ↓Zaz, ↓Zba, ↓Zbb, ↓Zbc, ↓Zbd, ↓Zbe, ↓Zbf, ↓Zbg, ↓Zbh, ↓Zbi, ↓Zbj, ↓Zbk, ↓Zbl, ↓Zbm, ↓Zbn, ↓Zbo, ↓Zbp, ↓Zbq, ↓Zbr, ↓Zbs, ↓Zbt, ↓Zbu, ↓Zbv, ↓Zbw, ↓Zbx, ↓Zby, ↓Zbz, ↓Zca, ↓Zcb, ↓Zcc, ↓Zcd, ↓Zce, ↓Zcf, ↓Zcg, ↓Zch, ↓Zci, ↓Zcj, ↓Zck, ↓Zcl, ↓Zcm, ↓Zcn, ↓Zco, ↓Zcp, ↓Zcq, ↓Zcr, ↓Zcs, ↓Zct, ↓Zcu, ↓Zcv, ↓Zcw, ↓Zcx, ↓Zcy, ↓Zcz, ↓Zda, ↓Zdb, ↓Zdc, ↓Zdd, ↓Zde, ↓Zdf, ↓Zdg, ↓Zdh, ↓Zdi, ↓Zdj, ↓Zdk, ↓Zdl, ↓Zdm, ↓Zdn, ↓Zdo, ↓Zdp, ↓Zdq, ↓Zdr, ↓Zds, ↓Zdt, ↓Zdu, ↓Zdv, ↓Zdw, ↓Zdx, ↓Zdy, ↓Zdz, ↓Zea, ↓Zeb, ↓Zec, ↓Zed, ↓Zee, ↓Zef, ↓Zeg, ↓Zeh, ↓Zei, ↓Zej, ↓Zek, ↓Zel, ↓Zem, ↓Zen, ↓Zeo, ↓Zep, ↓Zeq, ↓Zer, ↓Zes, ↓Zet, ↓Zeu, ↓Zev, ↓Zew, ↓Zex, ↓Zey, ↓Zez, ↓Zfa, ↓Zfb, ↓Zfc, ↓Zfd, ↓Zfe, ↓Zff, ↓Zfg, ↓Zfh, ↓Zfi, ↓Zfj, ↓Zfk, ↓Zfl, ↓Zfm, ↓Zfn, ↓Zfo, ↓Zfp, ↓Zfq, ↓Zfr, ↓Zfs, ↓Zft, ↓Zfu, ↓Zfv, ↓Zfw, ↓Zfx, ↓Zfy, ↓Zfz, ↓Zga, ↓Zgb, ↓Zgc, ↓Zgd, ↓Zge, ↓Zgf, ↓Zgg, ↓Zgh, ↓Zgi, ↓Zgj, ↓Zgk, ↓Zgl, ↓Zgm, ↓Zgn, ↓Zgo, ↓Zgp, ↓Zgq, ↓Zgr, ↓Zgs, ↓Zgt, ↓Zgu, ↓Zgv, ↓Zgw, ↓Zgx, ↓Zgy, ↓Zgz, ↓Zha, ↓Zhb, ↓Zhc, ↓Zhd, ↓Zhe, ↓Zhf, ↓Zhg, ↓Zhh, ↓Zhi, ↓Zhj, ↓Zhk, ↓Zhl, ↓Zhm, ↓Zhn, ↓Zho, ↓Zhp, ↓Zhq, ↓Zhr, ↓Zhs, ↓Zht, ↓Zhu, ↓Zhv, ↓Zhw, ↓Zhx, ↓Zhy, ↓Zhz, ↓Zia, ↓Zib, ↓Zic, ↓Zid, ↓Zie, ↓Zif, ↓Zig, ↓Zih, ↓Zii, ↓Zij, ↓Zik, reduceIte, if_true, if_false, Bool.false_eq_true, Bool.and_true, Bool.true_and, Bool.and_false, Bool.false_and, Bool.or_true, Bool.true_or, Bool.or_false, Bool.false_or, Int.cast_ofNat_Int, Zil, Zim, beq_self_eq_true, Int.reduceBEq, Int.reduceLT, Int.reduceLE, Int.reduceEq, Int.reduceNeg, Nat.reduceLT, Zin, Zio, Ziq, Zir, Zis, Zit, Ziu, Ziv, Ziw, Zix, Ziy, Ziz, Zja, Zjb, Zjc, Zjd, Zje, Zjf, Zjg, Zjh, Zji, Zjj, Zjk, Zjl, Zjm, Zjn, Zjo, Zjp, Zjq, Zjr, Zjs, Zjt, Zju, Zjv, Zjw, Zjx, Zjy, Zjz, Zka, Zkb, Zkc, Zkd, Zke, Zkf, Zkg, Zkh, Zki, Zkj, Zkk, Zkl, Zkm, Zkn, Zko, Zkp, List.lookup_nil, Zkq, Zkr, Option.map_some, Option.map_none, Option.bind_some, Option.bind_none, List.map_nil, List.map_cons, List.nil_append, List.cons_append, List.append_nil, List.length_cons, List.length_nil, Nat.reduceAdd, Nat.reduceLeDiff, Nat.reduceEqDiff, Nat.reduceBEq, decide_true, decide_false, Bool.not_true, Bool.not_false, Zks, Zkt, Zku, Zkv, Zkw, Zkx, Zky, Zkz, Zla, Zlb, Zlc, Zld, Zle, Zlf, List.getElem?_cons_zero, List.getElem?_cons_succ, Zlg, Zlh, Zli, Zlj, Zlk, Zll, Zlm, Zln, Zlo, Zlp, Zlq, Zlr, Zls, Zlt, Zlu, Zlv, Zlw, Zlx, Zly, setX, Zlz, Zma, Zmb, Int.ofNat_lt, Int.ofNat_le]
  refine lc_vec (fun i => rowD w (t i)) rfl (by simp only [wipeE, List.set_cons_zero, List.set_cons_succ]; rfl) (by omega) (fun i hi => ?_) ?_
  · simp -implicitDefEqProofs -dsimp only [↓Zaa, ↓Zab, ↓Zac, ↓Zad, ↓Zae, ↓Zaf, ↓Zag, ↓Zah, ↓Zai, ↓Zaj, ↓Zak, ↓Zal, ↓Zam, ↓Zan, ↓Zao, ↓Zap, ↓Zaq, ↓Zar, ↓Zas, ↓Zat, ↓Zau, ↓Zav, ↓Zaw, ↓Zax, ↓Zay, ↓Zaz, ↓Zba, ↓Zbb, ↓Zbc, ↓Zbd, ↓Zbe, ↓Zbf, ↓Zbg, ↓Zbh, ↓Zbi, ↓Zbj, ↓Zbk, ↓Zbl, ↓Zbm, ↓Zbn, ↓Zbo, ↓Zbp, ↓Zbq, ↓Zbr, ↓Zbs, ↓Zbt, ↓Zbu, ↓Zbv, ↓Zbw, ↓Zbx, ↓Zby, ↓Zbz, ↓Zca, ↓Zcb, ↓Zcc, ↓Zcd, ↓Zce, ↓Zcf, ↓Zcg, ↓Zch, ↓Zci, ↓Zcj, ↓Zck, ↓Zcl, ↓Zcm, ↓Zcn, ↓Zco, ↓Zcp, ↓Zcq, ↓Zcr, ↓Zcs, ↓Zct, ↓Zcu, ↓Zcv, ↓Zcw, ↓Zcx, ↓Zcy, ↓Zcz, ↓Zda, ↓Zdb, ↓Zdc, ↓Zdd, ↓Zde, ↓Zdf, ↓Zdg, ↓Zdh, ↓Zdi, ↓Zdj, ↓Zdk, ↓Zdl, ↓Zdm, ↓Zdn, ↓Zdo, ↓Zdp, ↓Zdq, ↓Zdr, ↓Zds, ↓Zdt, ↓Zdu, ↓Zdv, ↓Zdw, ↓Zdx, ↓Zdy, ↓Zdz, ↓Zea, ↓Zeb, ↓Zec, ↓Zed, ↓Zee, ↓Zef, ↓Zeg, ↓Zeh, ↓Zei, ↓Zej, ↓Zek, ↓Zel, ↓Zem, ↓Zen, ↓Zeo, ↓Zep, ↓Zeq, ↓Zer, ↓Zes, ↓Zet, ↓Zeu, ↓Zev, ↓Zew, ↓Zex, ↓Zey, ↓Zez, ↓Zfa, ↓Zfb, ↓Zfc, ↓Zfd, ↓Zfe, ↓Zff, ↓Zfg, ↓Zfh, ↓Zfi, ↓Zfj, ↓Zfk, ↓Zfl, ↓Zfm, ↓Zfn, ↓Zfo, ↓Zfp, ↓Zfq, ↓Zfr, ↓Zfs, ↓Zft, ↓Zfu, ↓Zfv, ↓Zfw, ↓Zfx, ↓Zfy, ↓Zfz, ↓Zga, ↓Zgb, ↓Zgc, ↓Zgd, ↓Zge, ↓Zgf, ↓Zgg, ↓Zgh, ↓Zgi, ↓Zgj, ↓Zgk, ↓Zgl, ↓Zgm, ↓Zgn, ↓Zgo, ↓Zgp, ↓Zgq, ↓Zgr, ↓Zgs, ↓Zgt, ↓Zgu, ↓Zgv, ↓Zgw, ↓Zgx, ↓Zgy, ↓Zgz, ↓Zha, ↓Zhb, ↓Zhc, ↓Zhd, ↓Zhe, ↓Zhf, ↓Zhg, ↓Zhh, ↓Zhi, ↓Zhj, ↓Zhk, ↓Zhl, ↓Zhm, ↓Zhn, ↓Zho, ↓Zhp, ↓Zhq, ↓Zhr, ↓Zhs, ↓Zht, ↓Zhu, ↓Zhv, ↓Zhw, ↓Zhx, ↓Zhy, ↓Zhz, ↓Zia, ↓Zib, ↓Zic, ↓Zid, ↓Zie, ↓Zif, ↓Zig, ↓Zih, ↓Zii, ↓Zij, ↓Zik, reduceIte, if_true, if_false, Bool.false_eq_true, Bool.and_true, Bool.true_and, Bool.and_false, Bool.false_and, Bool.or_true, Bool.true_or, Bool.or_false, Bool.false_or, Int.cast_ofNat_Int, Zil, Zim, beq_self_eq_true, Int.reduceBEq, Int.reduceLT, Int.reduceLE, Int.reduceEq, Int.reduceNeg, Nat.reduceLT, Zin, Zio, Ziq, Zir, Zis, Zit, Ziu, Ziv, Ziw, Zix, Ziy, Ziz, Zja, Zjb, Zjc, Zjd, Zje, Zjf, Zjg, Zjh, Zji, Zjj, Zjk, Zjl, Zjm, Zjn, Zjo, Zjp, Zjq, Zjr, Zjs, Zjt, Zju, Zjv, Zjw, Zjx, Zjy, Zjz, Zka, Zkb, Zkc, Zkd, Zke, Zkf, Zkg, Zkh, Zki, Zkj, Zkk, Zkl, Zkm, Zkn, Zko, Zkp, List.lookup_nil, Zkq, Zkr, Option.map_some, Option.map_none, Option.bind_some, Option.bind_none, List.map_nil, List.map_cons, List.nil_append, List.cons_append, List.append_nil, List.length_cons, List.length_nil, Nat.reduceAdd, Nat.reduceLeDiff, Nat.reduceEqDiff, Nat.reduceBEq, decide_true, decide_false, Bool.not_true, Bool.not_false, Zks, Zkt, Zku, Zkv, Zkw, Zkx, Zky, Zkz, Zla, Zlb, Zlc, Zld, Zle, Zlf, List.getElem?_cons_zero, List.getElem?_cons_succ, Zlg, Zlh, Zli, Zlj, Zlk, Zll, Zlm, Zln, Zlo, Zlp, Zlq, Zlr, Zls, Zlt, Zlu, Zlv, Zlw, Zlx, Zly, setX, Zlz, Zma, Zmb, Int.ofNat_lt, Int.ofNat_le]
    exact ⟨rfl, rfl, trivial⟩
  · rw [tbD_eq]
    have R := (elim_red h w t w).le
    have q := m_minitD (h := (elim h t w).pv.length) (w := w) (t := (elim h t w).t) (by omega)
    have c : cut (tbD h w (elim h t w).t) none (some ((elim h t w).pv.length : Int)) = tbD (elim h t w).pv.length w (elim h t w).t := by rw [Zlw, tb_take R]
    simp -implicitDefEqProofs -dsimp only [↓Zaa, ↓Zab, ↓Zac, ↓Zad, ↓Zae, ↓Zaf, ↓Zag, ↓Zah, ↓Zai, ↓Zaj, ↓Zak, ↓Zal, ↓Zam, ↓Zan, ↓Zao, ↓Zap, ↓Zaq, ↓Zar, ↓Zas, ↓Zat, ↓Zau, ↓Zav, ↓Zaw, ↓Zax, ↓Zay, ↓Zaz, ↓Zba, ↓Zbb, ↓Zbc, ↓Zbd, ↓Zbe, ↓Zbf, ↓Zbg, ↓Zbh, ↓Zbi, ↓Zbj, ↓Zbk, ↓Zbl, ↓Zbm, ↓Zbn, ↓Zbo, ↓Zbp, ↓Zbq, ↓Zbr, ↓Zbs, ↓Zbt, ↓Zbu, ↓Zbv, ↓Zbw, ↓Zbx, ↓Zby, ↓Zbz, ↓Zca, ↓Zcb, ↓Zcc, ↓Zcd, ↓Zce, ↓Zcf, ↓Zcg, ↓Zch, ↓Zci, ↓Zcj, ↓Zck, ↓Zcl, ↓Zcm, ↓Zcn, ↓Zco, ↓Zcp, ↓Zcq, ↓Zcr, ↓Zcs, ↓Zct, ↓Zcu, ↓Zcv, ↓Zcw, ↓Zcx, ↓Zcy, ↓Zcz, ↓Zda, ↓Zdb, ↓Zdc, ↓Zdd, ↓Zde, ↓Zdf, ↓Zdg, ↓Zdh, ↓Zdi, ↓Zdj, ↓Zdk, ↓Zdl, ↓Zdm, ↓Zdn, ↓Zdo, ↓Zdp, ↓Zdq, ↓Zdr, ↓Zds, ↓Zdt, ↓Zdu, ↓Zdv, ↓Zdw, ↓Zdx, ↓Zdy, ↓Zdz, ↓Zea, ↓Zeb, ↓Zec, ↓Zed, ↓Zee, ↓Zef, ↓Zeg, ↓Zeh, ↓Zei, ↓Zej, ↓Zek, ↓Zel, ↓Zem, ↓Zen, ↓Zeo, ↓Zep, ↓Zeq, ↓Zer, ↓Zes, ↓Zet, ↓Zeu, ↓Zev, ↓Zew, ↓Zex, ↓Zey, ↓Zez, ↓Zfa, ↓Zfb, ↓Zfc, ↓Zfd, ↓Zfe, ↓Zff, ↓Zfg, ↓Zfh, ↓Zfi, ↓Zfj, ↓Zfk, ↓Zfl, ↓Zfm, ↓Zfn, ↓Zfo, ↓Zfp, ↓Zfq, ↓Zfr, ↓Zfs, ↓Zft, ↓Zfu, ↓Zfv, ↓Zfw, ↓Zfx, ↓Zfy, ↓Zfz, ↓Zga, ↓Zgb, ↓Zgc, ↓Zgd, ↓Zge, ↓Zgf, ↓Zgg, ↓Zgh, ↓Zgi, ↓Zgj, ↓Zgk, ↓Zgl, ↓Zgm, ↓Zgn, ↓Zgo, ↓Zgp, ↓Zgq, ↓Zgr, ↓Zgs, ↓Zgt, ↓Zgu, ↓Zgv, ↓Zgw, ↓Zgx, ↓Zgy, ↓Zgz, ↓Zha, ↓Zhb, ↓Zhc, ↓Zhd, ↓Zhe, ↓Zhf, ↓Zhg, ↓Zhh, ↓Zhi, ↓Zhj, ↓Zhk, ↓Zhl, ↓Zhm, ↓Zhn, ↓Zho, ↓Zhp, ↓Zhq, ↓Zhr, ↓Zhs, ↓Zht, ↓Zhu, ↓Zhv, ↓Zhw, ↓Zhx, ↓Zhy, ↓Zhz, ↓Zia, ↓Zib, ↓Zic, ↓Zid, ↓Zie, ↓Zif, ↓Zig, ↓Zih, ↓Zii, ↓Zij, ↓Zik, reduceIte, if_true, if_false, Bool.false_eq_true, Bool.and_true, Bool.true_and, Bool.and_false, Bool.false_and, Bool.or_true, Bool.true_or, Bool.or_false, Bool.false_or, Int.cast_ofNat_Int, Zil, Zim, beq_self_eq_true, Int.reduceBEq, Int.reduceLT, Int.reduceLE, Int.reduceEq, Int.reduceNeg, Nat.reduceLT, Zin, Zio, Ziq, Zir, Zis, Zit, Ziu, Ziv, Ziw, Zix, Ziy, Ziz, Zja, Zjb, Zjc, Zjd, Zje, Zjf, Zjg, Zjh, Zji, Zjj, Zjk, Zjl, Zjm, Zjn, Zjo, Zjp, Zjq, Zjr, Zjs, Zjt, Zju, Zjv, Zjw, Zjx, Zjy, Zjz, Zka, Zkb, Zkc, Zkd, Zke, Zkf, Zkg, Zkh, Zki, Zkj, Zkk, Zkl, Zkm, Zkn, Zko, Zkp, List.lookup_nil, Zkq, Zkr, Option.map_some, Option.map_none, Option.bind_some, Option.bind_none, List.map_nil, List.map_cons, List.nil_append, List.cons_append, List.append_nil, List.length_cons, List.length_nil, Nat.reduceAdd, Nat.reduceLeDiff, Nat.reduceEqDiff, Nat.reduceBEq, decide_true, decide_false, Bool.not_true, Bool.not_false, Zks, Zkt, Zku, Zkv, Zkw, Zkx, Zky, Zkz, Zla, Zlb, Zlc, Zld, Zle, Zlf, List.getElem?_cons_zero, List.getElem?_cons_succ, Zlg, Zlh, Zli, Zlj, Zlk, Zll, Zlm, Zln, Zlo, Zlp, Zlq, Zlr, Zls, Zlt, Zlu, Zlv, Zlw, Zlx, Zly, setX, Zlz, Zma, Zmb, Int.ofNat_lt, Int.ofNat_le, k_elim (Nat.le_refl w) hw hh hK hs l, pv_len, c, q]
end L2.S.W

set_option Elab.async false
set_option linter.all false
set_option maxRecDepth 100000
set_option maxHeartbeats 8000000
namespace L2.S.W
open PySem PySem.Spec PyProof.Rows L2 L2.S
theorem m_kernel {h w K : Nat} {t : Nat → Nat → Rat} (hw : w ≤ 1000) (hh : h ≤ 1000) (hK : 0 < K) (hs : ∀ i j, i < h → j < w → Sz K (t i j)) (l : K * 5 ^ w ≤ 5000000) : φ_Matrix_kernel [.val (mD h w t)] = .ok (.d (.tup ((frees (elim h t w).pv w).map fun f => rowT w (kvec (elim h t w) f (elim h t w).pv.length)))) [] := by
  apply run_Matrix_kernel
  unfold g_Matrix_kernel
  have R := elim_red h w t w
  have q := m_reduced hw hh hK hs l
  generalize elim h t w = s at R q ⊢
  have hsw := smI_ok (show w ≤ 16777216 by omega)
  have hd := R.le
  simp -implicitDefEqProofs -dsimp only [↓Zaa, ↓Zab, ↓Zac, ↓Zad, ↓Zae, ↓Zaf, ↓Zag, ↓Zah, ↓Zai, ↓Zaj, ↓Zak, ↓Zal, ↓Zam, ↓Zan, ↓Zao, ↓Zap, ↓Zaq, ↓Zar, ↓Zas, ↓Zat, ↓Zau, ↓Zav, ↓Zaw, ↓Zax, ↓Zay, ↓Zaz, ↓Zba, ↓Zbb, ↓Zbc, ↓Zbd, ↓Zbe, ↓Zbf, ↓Zbg, ↓Zbh, ↓Zbi, ↓Zbj, ↓Zbk, ↓Zbl, ↓Zbm, ↓Zbn, ↓Zbo, ↓Zbp, ↓Zbq, ↓Zbr, ↓Zbs, ↓Zbt, ↓Zbu, ↓Zbv, ↓Zbw, ↓Zbx, ↓Zby, ↓Zbz, ↓Zca, ↓Zcb, ↓Zcc, ↓Zcd, ↓Zce, ↓Zcf, ↓Zcg, ↓Zch, ↓Zci, ↓Zcj, ↓Zck, ↓Zcl, ↓Zcm, ↓Zcn, ↓Zco, ↓Zcp, ↓Zcq, ↓Zcr, ↓Zcs, ↓Zct, ↓Zcu, ↓Zcv, ↓Zcw, ↓Zcx, ↓Zcy, ↓Zcz, ↓Zda, ↓Zdb, ↓Zdc, ↓Zdd, ↓Zde, ↓Zdf, ↓Zdg, ↓Zdh, ↓Zdi, ↓Zdj, ↓Zdk, ↓Zdl, ↓Zdm, ↓Zdn, ↓Zdo, ↓Zdp, ↓Zdq, ↓Zdr, ↓Zds, ↓Zdt, ↓Zdu, ↓Zdv, ↓Zdw, ↓Zdx, ↓Zdy, ↓Zdz, ↓Zea, ↓Zeb, ↓Zec, ↓Zed, ↓Zee, ↓Zef, ↓Zeg, ↓Zeh, ↓Zei, ↓Zej, ↓Zek, ↓Zel, ↓Zem, ↓Zen, ↓Zeo, ↓Zep, ↓Zeq, ↓Zer, ↓Zes, ↓Zet, ↓Zeu, ↓Zev, ↓Zew, ↓Zex, ↓Zey, ↓Zez, ↓Zfa, ↓Zfb, ↓Zfc, ↓Zfd, ↓Zfe, ↓Zff, ↓Zfg, ↓Zfh, ↓Zfi, ↓Zfj, ↓Zfk, ↓Zfl, ↓Zfm, ↓Zfn, ↓Zfo, ↓Zfp, ↓Zfq, ↓Zfr, ↓Zfs, ↓Zft, ↓Zfu, ↓Zfv, ↓Zfw, ↓Zfx, ↓Zfy, ↓Zfz, ↓Zga, ↓Zgb, ↓Zgc, ↓Zgd, ↓Zge, ↓Zgf, ↓Zgg, ↓Zgh, ↓Zgi, ↓Zgj, ↓Zgk, ↓Zgl, ↓Zgm, ↓Zgn, ↓Zgo, ↓Zgp, ↓Zgq, ↓Zgr, ↓Zgs, ↓Zgt, ↓Zgu, ↓Zgv, ↓Zgw, ↓Zgx, ↓Zgy, ↓Zgz, ↓Zha, ↓Zhb, ↓Zhc, ↓Zhd, ↓Zhe, ↓Zhf, ↓Zhg, ↓Zhh, ↓Zhi, ↓Zhj, ↓Zhk, ↓Zhl, ↓Zhm, ↓Zhn, ↓Zho, ↓Zhp, ↓Zhq, ↓Zhr, ↓Zhs, ↓Zht, ↓Zhu, ↓Zhv, ↓Zhw, ↓Zhx, ↓Zhy, ↓Zhz, ↓Zia, ↓Zib, ↓Zic, ↓Zid, ↓Zie, ↓Zif, ↓Zig, ↓Zih, ↓Zii, ↓Zij, ↓Zik, reduceIte, if_true, if_false, Bool.false_eq_true, Bool.and_true, Bool.true_and, Bool.and_false, Bool.false_and, Bool.or_true, Bool.true_or, Bool.or_false, Bool.false_or, Int.cast_ofNat_Int, Zil, Zim, beq_self_eq_true, Int.reduceBEq, Int.reduceLT, Int.reduceLE, Int.reduceEq, Int.reduceNeg, Nat.reduceLT, Zin, Zio, Ziq, Zir, Zis, Zit, Ziu, Ziv, Ziw, Zix, Ziy, Ziz, Zja, Zjb, Zjc, Zjd, Zje, Zjf, Zjg, Zjh, Zji, Zjj, Zjk, Zjl, Zjm, Zjn, Zjo, Zjp, Zjq, Zjr, Zjs, Zjt, Zju, Zjv, Zjw, Zjx, Zjy, Zjz, Zka, Zkb, Zkc, Zkd, Zke, Zkf, Zkg, Zkh, Zki, Zkj, Zkk, Zkl, Zkm, Zkn, Zko, Zkp, List.lookup_nil, Zkq, Zkr, Option.map_some, Option.map_none, Option.bind_some, Option.bind_none, List.map_nil, List.map_cons, List.nil_append, List.cons_append, List.append_nil, List.length_cons, List.length_nil, Nat.reduceAdd, Nat.reduceLeDiff, Nat.reduceEqDiff, Nat.reduceBEq, decide_true, decide_false, Bool.not_true, Bool.not_false, Zks, Zkt, Zku, Zkv, Zkw, Zkx, Zky, Zkz, Zla, Zlb, Zlc, Zld, Zle, Zlf, List.getElem?_cons_zero, List.getElem?_cons_succ, Zlg, Zlh, Zli, Zlj, Zlk, Zll, Zlm, Zln, Zlo, Zlp, Zlq, Zlr, Zls, Zlt, Zlu, Zlv, Zlw, Zlx, Zly, setX, Zlz, Zma, Zmb, Int.ofNat_lt, Int.ofNat_le, q, hsw]
  have zp : zipD (vec s.pv.length fun i => rowT w (s.t i)) (pvD s.pv) = vec s.pv.length fun i => .tup [rowT w (s.t i), .int ((s.pv.getD i 0 : Nat) : Int)] := by rw [pv_vec, vec_zip]
  have hp : ∀ i, i < s.pv.length → s.pv.getD i 0 < w := fun i hi => by
    rw [List.getD_eq_getElem?_getD, List.getElem?_eq_getElem hi]
    exact R.lt _ (List.getElem_mem hi)
  refine for_r0 (fun f e => ∃ x4 x5 x6 x7, e = [.val (mD h w t), .val (mD s.pv.length w s.t), .val (.tup (pvD s.pv)), .own false (.l ((frees s.pv f).map fun f => rowT w (kvec s f s.pv.length))), x4, x5, x6, x7] ∧ Fr1 x4 ∧ Fr1 x5 ∧ Fr1 x6 ∧ Fr1 x7) ?_ ?_ ?_
  · exact ⟨.un, .un, .un, .un, rfl, .un, .un, .un, .un⟩
  · rintro f e hf ⟨x4, x5, x6, x7, rfl, y4, y5, y6, y7⟩
    by_cases hm : f ∈ s.pv
    · have e1 : decide (f ∈ s.pv) = true := by simp [hm]
      rw [frees_succ, if_pos hm]
      simp -implicitDefEqProofs -dsimp only [↓Zaa, ↓Zab, ↓Zac, ↓Zad, ↓Zae, ↓Zaf, ↓Zag, ↓Zah, ↓Zai, ↓Zaj, ↓Zak, ↓Zal, ↓Zam, ↓Zan, ↓Zao, ↓Zap, ↓Zaq, ↓Zar, ↓Zas, ↓Zat, ↓Zau, ↓Zav, ↓Zaw, ↓Zax, ↓Zay, ↓Zaz, ↓Zba, ↓Zbb, ↓Zbc, ↓Zbd, ↓Zbe, ↓Zbf, ↓Zbg, ↓Zbh, ↓Zbi, ↓Zbj, ↓Zbk, ↓Zbl, ↓Zbm, ↓Zbn, ↓Zbo, ↓Zbp, ↓Zbq, ↓Zbr, ↓Zbs, ↓Zbt, ↓Zbu, ↓Zbv, ↓Zbw, ↓Zbx, ↓Zby, ↓Zbz, ↓Zca, ↓Zcb, ↓Zcc, ↓Zcd, ↓Zce, ↓Zcf, ↓Zcg, ↓Zch, ↓Zci, ↓Zcj, ↓Zck, ↓Zcl, ↓Zcm, ↓Zcn, ↓Zco, ↓Zcp, ↓Zcq, ↓Zcr, ↓Zcs, ↓Zct, ↓Zcu, ↓Zcv, ↓Zcw, ↓Zcx, ↓Zcy, ↓Zcz, ↓Zda, ↓Zdb, ↓Zdc, ↓Zdd, ↓Zde, ↓Zdf, ↓Zdg, ↓Zdh, ↓Zdi, ↓Zdj, ↓Zdk, ↓Zdl, ↓Zdm, ↓Zdn, ↓Zdo, ↓Zdp, ↓Zdq, ↓Zdr, ↓Zds, ↓Zdt, ↓Zdu, ↓Zdv, ↓Zdw, ↓Zdx, ↓Zdy, ↓Zdz, ↓Zea, ↓Zeb, ↓Zec, ↓Zed, ↓Zee, ↓Zef, ↓Zeg, ↓Zeh, ↓Zei, ↓Zej, ↓Zek, ↓Zel, ↓Zem, ↓Zen, ↓Zeo, ↓Zep, ↓Zeq, ↓Zer, ↓Zes, ↓Zet, ↓Zeu, ↓Zev, ↓Zew, ↓Zex, ↓Zey, ↓Zez, ↓Zfa, ↓Zfb, ↓Zfc, ↓Zfd, ↓Zfe, ↓Zff, ↓Zfg, ↓Zfh, ↓Zfi, ↓Zfj, ↓Zfk, ↓Zfl, ↓Zfm, ↓Zfn, ↓Zfo, ↓Zfp, ↓Zfq, ↓Zfr, ↓Zfs, ↓Zft, ↓Zfu, ↓Zfv, ↓Zfw, ↓Zfx, ↓Zfy, ↓Zfz, ↓Zga, ↓Zgb, ↓Zgc, ↓Zgd, ↓Zge, ↓Zgf, ↓Zgg, ↓Zgh, ↓Zgi, ↓Zgj, ↓Zgk, ↓Zgl, ↓Zgm, ↓Zgn, ↓Zgo, ↓Zgp, ↓Zgq, ↓Zgr, ↓Zgs, ↓Zgt, ↓Zgu, ↓Zgv, ↓Zgw, ↓Zgx, ↓Zgy, ↓Zgz, ↓Zha, ↓Zhb, ↓Zhc, ↓Zhd, ↓Zhe, ↓Zhf, ↓Zhg, ↓Zhh, ↓Zhi, ↓Zhj, ↓Zhk, ↓Zhl, ↓Zhm, ↓Zhn, ↓Zho, ↓Zhp, ↓Zhq, ↓Zhr, ↓Zhs, ↓Zht, ↓Zhu, ↓Zhv, ↓Zhw, ↓Zhx, ↓Zhy, ↓Zhz, ↓Zia, ↓Zib, ↓Zic, ↓Zid, ↓Zie, ↓Zif, ↓Zig, ↓Zih, ↓Zii, ↓Zij, ↓Zik, reduceIte, if_true, if_false, Bool.false_eq_true, Bool.and_true, Bool.true_and, Bool.and_false, Bool.false_and, Bool.or_true, Bool.true_or, Bool.or_false, Bool.false_or, Int.cast_ofNat_Int, Zil, Zim, beq_self_eq_true, Int.reduceBEq, Int.reduceLT, Int.reduceLE, Int.reduceEq, Int.reduceNeg, Nat.reduceLT, Zin, Zio, Ziq, Zir, Zis, Zit, Ziu, Ziv, Ziw, Zix, Ziy, Ziz, Zja, Zjb, Zjc, Zjd, Zje, Zjf, Zjg, Zjh, Zji, Zjj, Zjk, Zjl, Zjm, Zjn, Zjo, Zjp, Zjq, Zjr, Zjs, Zjt, Zju, Zjv, Zjw, Zjx, Zjy, Zjz, Zka, Zkb, Zkc, Zkd, Zke, Zkf, Zkg, Zkh, Zki, Zkj, Zkk, Zkl, Zkm, Zkn, Zko, Zkp, List.lookup_nil, Zkq, Zkr, Option.map_some, Option.map_none, Option.bind_some, Option.bind_none, List.map_nil, List.map_cons, List.nil_append, List.cons_append, List.append_nil, List.length_cons, List.length_nil, Nat.reduceAdd, Nat.reduceLeDiff, Nat.reduceEqDiff, Nat.reduceBEq, decide_true, decide_false, Bool.not_true, Bool.not_false, Zks, Zkt, Zku, Zkv, Zkw, Zkx, Zky, Zkz, Zla, Zlb, Zlc, Zld, Zle, Zlf, List.getElem?_cons_zero, List.getElem?_cons_succ, Zlg, Zlh, Zli, Zlj, Zlk, Zll, Zlm, Zln, Zlo, Zlp, Zlq, Zlr, Zls, Zlt, Zlu, Zlv, Zlw, Zlx, Zly, setX, Zlz, Zma, Zmb, Int.ofNat_lt, Int.ofNat_le, y4, pIn_pv, e1]
      exact ⟨_, _, _, _, rfl, .val, y5, y6, y7⟩
    · have e1 : decide (f ∈ s.pv) = false := by simp [hm]
      have hl : (frees s.pv f).length < 16777216 := by
        have : (frees s.pv f).length ≤ (List.range f).length := List.length_filter_le ..
        rw [List.length_range] at this
        omega
      rw [frees_succ, if_neg hm]
      simp -implicitDefEqProofs -dsimp only [↓Zaa, ↓Zab, ↓Zac, ↓Zad, ↓Zae, ↓Zaf, ↓Zag, ↓Zah, ↓Zai, ↓Zaj, ↓Zak, ↓Zal, ↓Zam, ↓Zan, ↓Zao, ↓Zap, ↓Zaq, ↓Zar, ↓Zas, ↓Zat, ↓Zau, ↓Zav, ↓Zaw, ↓Zax, ↓Zay, ↓Zaz, ↓Zba, ↓Zbb, ↓Zbc, ↓Zbd, ↓Zbe, ↓Zbf, ↓Zbg, ↓Zbh, ↓Zbi, ↓Zbj, ↓Zbk, ↓Zbl, ↓Zbm, ↓Zbn, ↓Zbo, ↓Zbp, ↓Zbq, ↓Zbr, ↓Zbs, ↓Zbt, ↓Zbu, ↓Zbv, ↓Zbw, ↓Zbx, ↓Zby, ↓Zbz, ↓Zca, ↓Zcb, ↓Zcc, ↓Zcd, ↓Zce, ↓Zcf, ↓Zcg, ↓Zch, ↓Zci, ↓Zcj, ↓Zck, ↓Zcl, ↓Zcm, ↓Zcn, ↓Zco, ↓Zcp, ↓Zcq, ↓Zcr, ↓Zcs, ↓Zct, ↓Zcu, ↓Zcv, ↓Zcw, ↓Zcx, ↓Zcy, ↓Zcz, ↓Zda, ↓Zdb, ↓Zdc, ↓Zdd, ↓Zde, ↓Zdf, ↓Zdg, ↓Zdh, ↓Zdi, ↓Zdj, ↓Zdk, ↓Zdl, ↓Zdm, ↓Zdn, ↓Zdo, ↓Zdp, ↓Zdq, ↓Zdr, ↓Zds, ↓Zdt, ↓Zdu, ↓Zdv, ↓Zdw, ↓Zdx, ↓Zdy, ↓Zdz, ↓Zea, ↓Zeb, ↓Zec, ↓Zed, ↓Zee, ↓Zef, ↓Zeg, ↓Zeh, ↓Zei, ↓Zej, ↓Zek, ↓Zel, ↓Zem, ↓Zen, ↓Zeo, ↓Zep, ↓Zeq, ↓Zer, ↓Zes, ↓Zet, ↓Zeu, ↓Zev, ↓Zew, ↓Zex, ↓Zey, ↓Zez, ↓Zfa, ↓Zfb, ↓Zfc, ↓Zfd, ↓Zfe, ↓Zff, ↓Zfg, ↓Zfh, ↓Zfi, ↓Zfj, ↓Zfk, ↓Zfl, ↓Zfm, ↓Zfn, ↓Zfo, ↓Zfp, ↓Zfq, ↓Zfr, ↓Zfs, ↓Zft, ↓Zfu, ↓Zfv, ↓Zfw, ↓Zfx, ↓Zfy, ↓Zfz, ↓Zga, ↓Zgb, ↓Zgc, ↓Zgd, ↓Zge, ↓Zgf, ↓Zgg, ↓Zgh, ↓Zgi, ↓Zgj, ↓Zgk, ↓Zgl, ↓Zgm, ↓Zgn, ↓Zgo, ↓Zgp, ↓Zgq, ↓Zgr, ↓Zgs, ↓Zgt, ↓Zgu, ↓Zgv, ↓Zgw, ↓Zgx, ↓Zgy, ↓Zgz, ↓Zha, ↓Zhb, ↓Zhc, ↓Zhd, ↓Zhe, ↓Zhf, ↓Zhg, ↓Zhh, ↓Zhi, ↓Zhj, ↓Zhk, ↓Zhl, ↓Zhm, ↓Zhn, ↓Zho, ↓Zhp, ↓Zhq, ↓Zhr, ↓Zhs, ↓Zht, ↓Zhu, ↓Zhv, ↓Zhw, ↓Zhx, ↓Zhy, ↓Zhz, ↓Zia, ↓Zib, ↓Zic, ↓Zid, ↓Zie, ↓Zif, ↓Zig, ↓Zih, ↓Zii, ↓Zij, ↓Zik, reduceIte, if_true, if_false, Bool.false_eq_true, Bool.and_true, Bool.true_and, Bool.and_false, Bool.false_and, Bool.or_true, Bool.true_or, Bool.or_false, Bool.false_or, Int.cast_ofNat_Int, Zil, Zim, beq_self_eq_true, Int.reduceBEq, Int.reduceLT, Int.reduceLE, Int.reduceEq, Int.reduceNeg, Nat.reduceLT, Zin, Zio, Ziq, Zir, Zis, Zit, Ziu, Ziv, Ziw, Zix, Ziy, Ziz, Zja, Zjb, Zjc, Zjd, Zje, Zjf, Zjg, Zjh, Zji, Zjj, Zjk, Zjl, Zjm, Zjn, Zjo, Zjp, Zjq, Zjr, Zjs, Zjt, Zju, Zjv, Zjw, Zjx, Zjy, Zjz, Zka, Zkb, Zkc, Zkd, Zke, Zkf, Zkg, Zkh, Zki, Zkj, Zkk, Zkl, Zkm, Zkn, Zko, Zkp, List.lookup_nil, Zkq, Zkr, Option.map_some, Option.map_none, Option.bind_some, Option.bind_none, List.map_nil, List.map_cons, List.nil_append, List.cons_append, List.append_nil, List.length_cons, List.length_nil, Nat.reduceAdd, Nat.reduceLeDiff, Nat.reduceEqDiff, Nat.reduceBEq, decide_true, decide_false, Bool.not_true, Bool.not_false, Zks, Zkt, Zku, Zkv, Zkw, Zkx, Zky, Zkz, Zla, Zlb, Zlc, Zld, Zle, Zlf, List.getElem?_cons_zero, List.getElem?_cons_succ, Zlg, Zlh, Zli, Zlj, Zlk, Zll, Zlm, Zln, Zlo, Zlp, Zlq, Zlr, Zls, Zlt, Zlu, Zlv, Zlw, Zlx, Zly, setX, Zlz, Zma, Zmb, Int.ofNat_lt, Int.ofNat_le, y4, y5, pIn_pv, e1, m_unit hw]
      rw [zp]
      refine for_n (fun i e => ∃ x6 x7, e = [.val (mD h w t), .val (mD s.pv.length w s.t), .val (.tup (pvD s.pv)), .own false (.l ((frees s.pv f).map fun f => rowT w (kvec s f s.pv.length))), .val (.int f), .own false (.l (vec w fun j => rD (kvec s f i j))), x6, x7] ∧ Fr1 x6 ∧ Fr1 x7) ?_ ?_ ?_
      · exact ⟨x6, x7, rfl, y6, y7⟩
      · rintro i e hi ⟨z6, z7, rfl, q6, q7⟩
        simp -implicitDefEqProofs -dsimp only [↓Zaa, ↓Zab, ↓Zac, ↓Zad, ↓Zae, ↓Zaf, ↓Zag, ↓Zah, ↓Zai, ↓Zaj, ↓Zak, ↓Zal, ↓Zam, ↓Zan, ↓Zao, ↓Zap, ↓Zaq, ↓Zar, ↓Zas, ↓Zat, ↓Zau, ↓Zav, ↓Zaw, ↓Zax, ↓Zay, ↓Zaz, ↓Zba, ↓Zbb, ↓Zbc, ↓Zbd, ↓Zbe, ↓Zbf, ↓Zbg, ↓Zbh, ↓Zbi, ↓Zbj, ↓Zbk, ↓Zbl, ↓Zbm, ↓Zbn, ↓Zbo, ↓Zbp, ↓Zbq, ↓Zbr, ↓Zbs, ↓Zbt, ↓Zbu, ↓Zbv, ↓Zbw, ↓Zbx, ↓Zby, ↓Zbz, ↓Zca, ↓Zcb, ↓Zcc, ↓Zcd, ↓Zce, ↓Zcf, ↓Zcg, ↓Zch, ↓Zci, ↓Zcj, ↓Zck, ↓Zcl, ↓Zcm, ↓Zcn, ↓Zco, ↓Zcp, ↓Zcq, ↓Zcr, ↓Zcs, ↓Zct, ↓Zcu, ↓Zcv, ↓Zcw, ↓Zcx, ↓Zcy, ↓Zcz, ↓Zda, ↓Zdb, ↓Zdc, ↓Zdd, ↓Zde, ↓Zdf, ↓Zdg, ↓Zdh, ↓Zdi, ↓Zdj, ↓Zdk, ↓Zdl, ↓Zdm, ↓Zdn, ↓Zdo, ↓Zdp, ↓Zdq, ↓Zdr, ↓Zds, ↓Zdt, ↓Zdu, ↓Zdv, ↓Zdw, ↓Zdx, ↓Zdy, ↓Zdz, ↓Zea, ↓Zeb, ↓Zec, ↓Zed, ↓Zee, ↓Zef, ↓Zeg, ↓Zeh, ↓Zei, ↓Zej, ↓Zek, ↓Zel, ↓Zem, ↓Zen, ↓Zeo, ↓Zep, ↓Zeq, ↓Zer, ↓Zes, ↓Zet, ↓Zeu, ↓Zev, ↓Zew, ↓Zex, ↓Zey, ↓Zez, ↓Zfa, ↓Zfb, ↓Zfc, ↓Zfd, ↓Zfe, ↓Zff, ↓Zfg, ↓Zfh, ↓Zfi, ↓Zfj, ↓Zfk, ↓Zfl, ↓Zfm, ↓Zfn, ↓Zfo, ↓Zfp, ↓Zfq, ↓Zfr, ↓Zfs, ↓Zft, ↓Zfu, ↓Zfv, ↓Zfw, ↓Zfx, ↓Zfy, ↓Zfz, ↓Zga, ↓Zgb, ↓Zgc, ↓Zgd, ↓Zge, ↓Zgf, ↓Zgg, ↓Zgh, ↓Zgi, ↓Zgj, ↓Zgk, ↓Zgl, ↓Zgm, ↓Zgn, ↓Zgo, ↓Zgp, ↓Zgq, ↓Zgr, ↓Zgs, ↓Zgt, ↓Zgu, ↓Zgv, ↓Zgw, ↓Zgx, ↓Zgy, ↓Zgz, ↓Zha, ↓Zhb, ↓Zhc, ↓Zhd, ↓Zhe, ↓Zhf, ↓Zhg, ↓Zhh, ↓Zhi, ↓Zhj, ↓Zhk, ↓Zhl, ↓Zhm, ↓Zhn, ↓Zho, ↓Zhp, ↓Zhq, ↓Zhr, ↓Zhs, ↓Zht, ↓Zhu, ↓Zhv, ↓Zhw, ↓Zhx, ↓Zhy, ↓Zhz, ↓Zia, ↓Zib, ↓Zic, ↓Zid, ↓Zie, ↓Zif, ↓Zig, ↓Zih, ↓Zii, ↓Zij, ↓Zik, reduceIte, if_true, if_false, Bool.false_eq_true, Bool.and_true, Bool.true_and, Bool.and_false, Bool.false_and, Bool.or_true, Bool.true_or, Bool.or_false, Bool.false_or, Int.cast_ofNat_Int, Zil, Zim, beq_self_eq_true, Int.reduceBEq, Int.reduceLT, Int.reduceLE, Int.reduceEq, Int.reduceNeg, Nat.reduceLT, Zin, Zio, Ziq, Zir, Zis, Zit, Ziu, Ziv, Ziw, Zix, Ziy, Ziz, Zja, Zjb, Zjc, Zjd, Zje, Zjf, Zjg, Zjh, Zji, Zjj, Zjk, Zjl, Zjm, Zjn, Zjo, Zjp, Zjq, Zjr, Zjs, Zjt, Zju, Zjv, Zjw, Zjx, Zjy, Zjz, Zka, Zkb, Zkc, Zkd, Zke, Zkf, Zkg, Zkh, Zki, Zkj, Zkk, Zkl, Zkm, Zkn, Zko, Zkp, List.lookup_nil, Zkq, Zkr, Option.map_some, Option.map_none, Option.bind_some, Option.bind_none, List.map_nil, List.map_cons, List.nil_append, List.cons_append, List.append_nil, List.length_cons, List.length_nil, Nat.reduceAdd, Nat.reduceLeDiff, Nat.reduceEqDiff, Nat.reduceBEq, decide_true, decide_false, Bool.not_true, Bool.not_false, Zks, Zkt, Zku, Zkv, Zkw, Zkx, Zky, Zkz, Zla, Zlb, Zlc, Zld, Zle, Zlf, List.getElem?_cons_zero, List.getElem?_cons_succ, Zlg, Zlh, Zli, Zlj, Zlk, Zll, Zlm, Zln, Zlo, Zlp, Zlq, Zlr, Zls, Zlt, Zlu, Zlv, Zlw, Zlx, Zly, setX, Zlz, Zma, Zmb, Int.ofNat_lt, Int.ofNat_le, q6, q7, vec_atI hf, m_neg, vec_len, ixN_nat (hp i hi), vec_set]
        refine ⟨.val (rowT w (s.t i)), .val (.int (s.pv.getD i 0 : Nat)), ?_, .val, .val⟩
        rw [vec_ext (g := fun j => rD (kvec s f (i + 1) j)) fun j _ => ?_]
        show (if j = s.pv.getD i 0 then _ else _) = rD (if j = s.pv.getD i 0 then _ else _)
        split <;> rfl
      · rintro e ⟨z6, z7, rfl, q6, q7⟩
        simp -implicitDefEqProofs -dsimp only [↓Zaa, ↓Zab, ↓Zac, ↓Zad, ↓Zae, ↓Zaf, ↓Zag, ↓Zah, ↓Zai, ↓Zaj, ↓Zak, ↓Zal, ↓Zam, ↓Zan, ↓Zao, ↓Zap, ↓Zaq, ↓Zar, ↓Zas, ↓Zat, ↓Zau, ↓Zav, ↓Zaw, ↓Zax, ↓Zay, ↓Zaz, ↓Zba, ↓Zbb, ↓Zbc, ↓Zbd, ↓Zbe, ↓Zbf, ↓Zbg, ↓Zbh, ↓Zbi, ↓Zbj, ↓Zbk, ↓Zbl, ↓Zbm, ↓Zbn, ↓Zbo, ↓Zbp, ↓Zbq, ↓Zbr, ↓Zbs, ↓Zbt, ↓Zbu, ↓Zbv, ↓Zbw, ↓Zbx, ↓Zby, ↓Zbz, ↓Zca, ↓Zcb, ↓Zcc, ↓Zcd, ↓Zce, ↓Zcf, ↓Zcg, ↓Zch, ↓Zci, ↓Zcj, ↓Zck, ↓Zcl, ↓Zcm, ↓Zcn, ↓Zco, ↓Zcp, ↓Zcq, ↓Zcr, ↓Zcs, ↓Zct, ↓Zcu, ↓Zcv, ↓Zcw, ↓Zcx, ↓Zcy, ↓Zcz, ↓Zda, ↓Zdb, ↓Zdc, ↓Zdd, ↓Zde, ↓Zdf, ↓Zdg, ↓Zdh, ↓Zdi, ↓Zdj, ↓Zdk, ↓Zdl, ↓Zdm, ↓Zdn, ↓Zdo, ↓Zdp, ↓Zdq, ↓Zdr, ↓Zds, ↓Zdt, ↓Zdu, ↓Zdv, ↓Zdw, ↓Zdx, ↓Zdy, ↓Zdz, ↓Zea, ↓Zeb, ↓Zec, ↓Zed, ↓Zee, ↓Zef, ↓Zeg, ↓Zeh, ↓Zei, ↓Zej, ↓Zek, ↓Zel, ↓Zem, ↓Zen, ↓Zeo, ↓Zep, ↓Zeq, ↓Zer, ↓Zes, ↓Zet, ↓Zeu, ↓Zev, ↓Zew, ↓Zex, ↓Zey, ↓Zez, ↓Zfa, ↓Zfb, ↓Zfc, ↓Zfd, ↓Zfe, ↓Zff, ↓Zfg, ↓Zfh, ↓Zfi, ↓Zfj, ↓Zfk, ↓Zfl, ↓Zfm, ↓Zfn, ↓Zfo, ↓Zfp, ↓Zfq, ↓Zfr, ↓Zfs, ↓Zft, ↓Zfu, ↓Zfv, ↓Zfw, ↓Zfx, ↓Zfy, ↓Zfz, ↓Zga, ↓Zgb, ↓Zgc, ↓Zgd, ↓Zge, ↓Zgf, ↓Zgg, ↓Zgh, ↓Zgi, ↓Zgj, ↓Zgk, ↓Zgl, ↓Zgm, ↓Zgn, ↓Zgo, ↓Zgp, ↓Zgq, ↓Zgr, ↓Zgs, ↓Zgt, ↓Zgu, ↓Zgv, ↓Zgw, ↓Zgx, ↓Zgy, ↓Zgz, ↓Zha, ↓Zhb, ↓Zhc, ↓Zhd, ↓Zhe, ↓Zhf, ↓Zhg, ↓Zhh, ↓Zhi, ↓Zhj, ↓Zhk, ↓Zhl, ↓Zhm, ↓Zhn, ↓Zho, ↓Zhp, ↓Zhq, ↓Zhr, ↓Zhs, ↓Zht, ↓Zhu, ↓Zhv, ↓Zhw, ↓Zhx, ↓Zhy, ↓Zhz, ↓Zia, ↓Zib, ↓Zic, ↓Zid, ↓Zie, ↓Zif, ↓Zig, ↓Zih, ↓Zii, ↓Zij, ↓Zik, reduceIte, if_true, if_false, Bool.false_eq_true, Bool.and_true, Bool.true_and, Bool.and_false, Bool.false_and, Bool.or_true, Bool.true_or, Bool.or_false, Bool.false_or, Int.cast_ofNat_Int, Zil, Zim, beq_self_eq_true, Int.reduceBEq, Int.reduceLT, Int.reduceLE, Int.reduceEq, Int.reduceNeg, Nat.reduceLT, Zin, Zio, Ziq, Zir, Zis, Zit, Ziu, Ziv, Ziw, Zix, Ziy, Ziz, Zja, Zjb, Zjc, Zjd, Zje, Zjf, Zjg, Zjh, Zji, Zjj, Zjk, Zjl, Zjm, Zjn, Zjo, Zjp, Zjq, Zjr, Zjs, Zjt, Zju, Zjv, Zjw, Zjx, Zjy, Zjz, Zka, Zkb, Zkc, Zkd, Zke, Zkf, Zkg, Zkh, Zki, Zkj, Zkk, Zkl, Zkm, Zkn, Zko, Zkp, List.lookup_nil, Zkq, Zkr, Option.map_some, Option.map_none, Option.bind_some, Option.bind_none, List.map_nil, List.map_cons, List.nil_append, List.cons_append, List.append_nil, List.length_cons, List.length_nil, Nat.reduceAdd, Nat.reduceLeDiff, Nat.reduceEqDiff, Nat.reduceBEq, decide_true, decide_false, Bool.not_true, Bool.not_false, Zks, Zkt, Zku, Zkv, Zkw, Zkx, Zky, Zkz, Zla, Zlb, Zlc, Zld, Zle, Zlf, List.getElem?_cons_zero, List.getElem?_cons_succ, Zlg, Zlh, Zli, Zlj, Zlk, Zll, Zlm, Zln, Zlo, Zlp, Zlq, Zlr, Zls, Zlt, Zlu, Zlv, Zlw, Zlx, Zly, setX, Zlz, Zma, Zmb, Int.ofNat_lt, Int.ofNat_le, List.length_map, hl]
        refine ⟨.val (.int f), .val (.lst (vec w fun j => rD (kvec s f s.pv.length j))), z6, z7, ?_, .val, .val, q6, q7⟩
        rw [List.map_append]
        rfl
  · rintro e ⟨x4, x5, x6, x7, rfl, y4, y5, y6, y7⟩
    simp -implicitDefEqProofs -dsimp only [↓Zaa, ↓Zab, ↓Zac, ↓Zad, ↓Zae, ↓Zaf, ↓Zag, ↓Zah, ↓Zai, ↓Zaj, ↓Zak, ↓Zal, ↓Zam, ↓Zan, ↓Zao, ↓Zap, ↓Zaq, ↓Zar, ↓Zas, ↓Zat, ↓Zau, ↓Zav, ↓Zaw, ↓Zax, ↓Zay, ↓Zaz, ↓Zba, ↓Zbb, ↓Zbc, ↓Zbd, ↓Zbe, ↓Zbf, ↓Zbg, ↓Zbh, ↓Zbi, ↓Zbj, ↓Zbk, ↓Zbl, ↓Zbm, ↓Zbn, ↓Zbo, ↓Zbp, ↓Zbq, ↓Zbr, ↓Zbs, ↓Zbt, ↓Zbu, ↓Zbv, ↓Zbw, ↓Zbx, ↓Zby, ↓Zbz, ↓Zca, ↓Zcb, ↓Zcc, ↓Zcd, ↓Zce, ↓Zcf, ↓Zcg, ↓Zch, ↓Zci, ↓Zcj, ↓Zck, ↓Zcl, ↓Zcm, ↓Zcn, ↓Zco, ↓Zcp, ↓Zcq, ↓Zcr, ↓Zcs, ↓Zct, ↓Zcu, ↓Zcv, ↓Zcw, ↓Zcx, ↓Zcy, ↓Zcz, ↓Zda, ↓Zdb, ↓Zdc, ↓Zdd, ↓Zde, ↓Zdf, ↓Zdg, ↓Zdh, ↓Zdi, ↓Zdj, ↓Zdk, ↓Zdl, ↓Zdm, ↓Zdn, ↓Zdo, ↓Zdp, ↓Zdq, ↓Zdr, ↓Zds, ↓Zdt, ↓Zdu, ↓Zdv, ↓Zdw, ↓Zdx, ↓Zdy, ↓Zdz, ↓Zea, ↓Zeb, ↓Zec, ↓Zed, ↓Zee, ↓Zef, ↓Zeg, ↓Zeh, ↓Zei, ↓Zej, ↓Zek, ↓Zel, ↓Zem, ↓Zen, ↓Zeo, ↓Zep, ↓Zeq, ↓Zer, ↓Zes, ↓Zet, ↓Zeu, ↓Zev, ↓Zew, ↓Zex, ↓Zey, ↓Zez, ↓Zfa, ↓Zfb, ↓Zfc, ↓Zfd, ↓Zfe, ↓Zff, ↓Zfg, ↓Zfh, ↓Zfi, ↓Zfj, ↓Zfk, ↓Zfl, ↓Zfm, ↓Zfn, ↓Zfo, ↓Zfp, ↓Zfq, ↓Zfr, ↓Zfs, ↓Zft, ↓Zfu, ↓Zfv, ↓Zfw, ↓Zfx, ↓Zfy, ↓Zfz, ↓Zga, ↓Zgb, ↓Zgc, ↓Zgd, ↓Zge, ↓Zgf, ↓Zgg, ↓Zgh, ↓Zgi, ↓Zgj, ↓Zgk, ↓Zgl, ↓Zgm, ↓Zgn, ↓Zgo, ↓Zgp, ↓Zgq, ↓Zgr, ↓Zgs, ↓Zgt, ↓Zgu, ↓Zgv, ↓Zgw, ↓Zgx, ↓Zgy, ↓Zgz, ↓Zha, ↓Zhb, ↓Zhc, ↓Zhd, ↓Zhe, ↓Zhf, ↓Zhg, ↓Zhh, ↓Zhi, ↓Zhj, ↓Zhk, ↓Zhl, ↓Zhm, ↓Zhn, ↓Zho, ↓Zhp, ↓Zhq, ↓Zhr, ↓Zhs, ↓Zht, ↓Zhu, ↓Zhv, ↓Zhw, ↓Zhx, ↓Zhy, ↓Zhz, ↓Zia, ↓Zib, ↓Zic, ↓Zid, ↓Zie, ↓Zif, ↓Zig, ↓Zih, ↓Zii, ↓Zij, ↓Zik, reduceIte, if_true, if_false, Bool.false_eq_true, Bool.and_true, Bool.true_and, Bool.and_false, Bool.false_and, Bool.or_true, Bool.true_or, Bool.or_false, Bool.false_or, Int.cast_ofNat_Int, Zil, Zim, beq_self_eq_true, Int.reduceBEq, Int.reduceLT, Int.reduceLE, Int.reduceEq, Int.reduceNeg, Nat.reduceLT, Zin, Zio, Ziq, Zir, Zis, Zit, Ziu, Ziv, Ziw, Zix, Ziy, Ziz, Zja, Zjb, Zjc, Zjd, Zje, Zjf, Zjg, Zjh, Zji, Zjj, Zjk, Zjl, Zjm, Zjn, Zjo, Zjp, Zjq, Zjr, Zjs, Zjt, Zju, Zjv, Zjw, Zjx, Zjy, Zjz, Zka, Zkb, Zkc, Zkd, Zke, Zkf, Zkg, Zkh, Zki, Zkj, Zkk, Zkl, Zkm, Zkn, Zko, Zkp, List.lookup_nil, Zkq, Zkr, Option.map_some, Option.map_none, Option.bind_some, Option.bind_none, List.map_nil, List.map_cons, List.nil_append, List.cons_append, List.append_nil, List.length_cons, List.length_nil, Nat.reduceAdd, Nat.reduceLeDiff, Nat.reduceEqDiff, Nat.reduceBEq, decide_true, decide_false, Bool.not_true, Bool.not_false, Zks, Zkt, Zku, Zkv, Zkw, Zkx, Zky, Zkz, Zla, Zlb, Zlc, Zld, Zle, Zlf, List.getElem?_cons_zero, List.getElem?_cons_succ, Zlg, Zlh, Zli, Zlj, Zlk, Zll, Zlm, Zln, Zlo, Zlp, Zlq, Zlr, Zls, Zlt, Zlu, Zlv, Zlw, Zlx, Zly, setX, Zlz, Zma, Zmb, Int.ofNat_lt, Int.ofNat_le]
theorem m_solve {h w K : Nat} {t : Nat → Nat → Rat} {b : Nat → Rat} (hw : w ≤ 900) (hh : h ≤ 90) (hK : 0 < K) (hs : ∀ i j, i < h → j < w → Sz K (t i j)) (hb : ∀ i, i < h → Sz K (b i)) (l : K * 5 ^ w ≤ 5000000) :
    φ_Matrix_solve [.val (mD h w t), .val (.tup (vec h fun k => rD (b k)))] = .ok (.d (match firstR h (elim h (augT w t b) w).t w (elim h (augT w t b) w).pv.length with
      | some i => .tup [.str [110, 111, 110, 101], rowT h fun k => (elim h (augT w t b) w).t i (w + 1 + k) * ((elim h (augT w t b) w).t i w)⁻¹]
      | none => .tup [.str [115, 111, 108, 117, 116, 105, 111, 110], rowT w (svec (elim h (augT w t b) w) w (elim h (augT w t b) w).pv.length)])) [] := by
  apply run_Matrix_solve
  unfold g_Matrix_solve
  have hsw := smI_ok (show w ≤ 16777216 by omega)
  have hsh := smI_ok (show h ≤ 16777216 by omega)
  simp -implicitDefEqProofs -dsimp only [↓Zaa, ↓Zab, ↓Zac, ↓Zad, ↓Zae, ↓Zaf, ↓Zag, ↓Zah, ↓Zai, ↓Zaj, ↓Zak, ↓Zal, ↓Zam, ↓Zan, ↓Zao, ↓Zap, ↓Zaq, ↓Zar, ↓Zas, ↓Zat, ↓Zau, ↓Zav, ↓Zaw, ↓Zax, ↓Zay, ↓Zaz, ↓Zba, ↓Zbb, ↓Zbc, ↓Zbd, ↓Zbe, ↓Zbf, ↓Zbg, ↓Zbh, ↓Zbi, ↓Zbj, ↓Zbk, ↓Zbl, ↓Zbm, ↓Zbn, ↓Zbo, ↓Zbp, ↓Zbq, ↓Zbr, ↓Zbs, ↓Zbt, ↓Zbu, ↓Zbv, ↓Zbw, ↓Zbx, ↓Zby, ↓Zbz, ↓Zca, ↓Zcb, ↓Zcc, ↓Zcd, ↓Zce, ↓Zcf, ↓Zcg, ↓Zch, ↓Zci, ↓Zcj, ↓Zck, ↓Zcl, ↓Zcm, ↓Zcn, ↓Zco, ↓Zcp, ↓Zcq, ↓Zcr, ↓Zcs, ↓Zct, ↓Zcu, ↓Zcv, ↓Zcw, ↓Zcx, ↓Zcy, ↓Zcz, ↓Zda, ↓Zdb, ↓Zdc, ↓Zdd, ↓Zde, ↓Zdf, ↓Zdg, ↓Zdh, ↓Zdi, ↓Zdj, ↓Zdk, ↓Zdl, ↓Zdm, ↓Zdn, ↓Zdo, ↓Zdp, ↓Zdq, ↓Zdr, ↓Zds, ↓Zdt, ↓Zdu, ↓Zdv, ↓Zdw, ↓Zdx, ↓Zdy, ↓Zdz, ↓Zea, ↓Zeb, ↓Zec, ↓Zed, ↓Zee, ↓Zef, ↓Zeg, ↓Zeh, ↓Zei, ↓Zej, ↓Zek, ↓Zel, ↓Zem, ↓Zen, ↓Zeo, ↓Zep, ↓Zeq, ↓Zer, ↓Zes, ↓Zet, ↓Zeu, ↓Zev, ↓Zew, ↓Zex, ↓Zey, ↓Zez, ↓Zfa, ↓Zfb, ↓Zfc, ↓Zfd, ↓Zfe, ↓Zff, ↓Zfg, ↓Zfh, ↓Zfi, ↓Zfj, ↓Zfk, ↓Zfl, ↓Zfm, ↓Zfn, ↓Zfo, ↓Zfp, ↓Zfq, ↓Zfr, ↓Zfs, ↓Zft, ↓Zfu, ↓Zfv, ↓Zfw, ↓Zfx, ↓Zfy, ↓Zfz, ↓Zga, ↓Zgb, ↓Zgc, ↓Zgd, ↓Zge, ↓Zgf, ↓Zgg, ↓Zgh, ↓Zgi, ↓Zgj, ↓Zgk, ↓Zgl, ↓Zgm, ↓Zgn, ↓Zgo, ↓Zgp, ↓Zgq, ↓Zgr, ↓Zgs, ↓Zgt, ↓Zgu, ↓Zgv, ↓Zgw, ↓Zgx, ↓Zgy, ↓Zgz, ↓Zha, ↓Zhb, ↓Zhc, ↓Zhd, ↓Zhe, ↓Zhf, ↓Zhg, ↓Zhh, ↓Zhi, ↓Zhj, ↓Zhk, ↓Zhl, ↓Zhm, ↓Zhn, ↓Zho, ↓Zhp, ↓Zhq, ↓Zhr, ↓Zhs, ↓Zht, ↓Zhu, ↓Zhv, ↓Zhw, ↓Zhx, ↓Zhy, ↓Zhz, ↓Zia, ↓Zib, ↓Zic, ↓Zid, ↓Zie, ↓Zif, ↓Zig, ↓Zih, ↓Zii, ↓Zij, ↓Zik, reduceIte, if_true, if_false, Bool.false_eq_true, Bool.and_true, Bool.true_and, Bool.and_false, Bool.false_and, Bool.or_true, Bool.true_or, Bool.or_false, Bool.false_or, Int.cast_ofNat_Int, Zil, Zim, beq_self_eq_true, Int.reduceBEq, Int.reduceLT, Int.reduceLE, Int.reduceEq, Int.reduceNeg, Nat.reduceLT, Zin, Zio, Ziq, Zir, Zis, Zit, Ziu, Ziv, Ziw, Zix, Ziy, Ziz, Zja, Zjb, Zjc, Zjd, Zje, Zjf, Zjg, Zjh, Zji, Zjj, Zjk, Zjl, Zjm, Zjn, Zjo, Zjp, Zjq, Zjr, Zjs, Zjt, Zju, Zjv, Zjw, Zjx, Zjy, Zjz, Zka, Zkb, Zkc, Zkd, Zke, Zkf, Zkg, Zkh, Zki, Zkj, Zkk, Zkl, Zkm, Zkn, Zko, Zkp, List.lookup_nil, Zkq, Zkr, Option.map_some, Option.map_none, Option.bind_some, Option.bind_none, List.map_nil, List.map_cons, List.nil_append, List.cons_append, List.append_nil, List.length_cons, List.length_nil, Nat.reduceAdd, Nat.reduceLeDiff, Nat.reduceEqDiff, Nat.reduceBEq, decide_true, decide_false, Bool.not_true, Bool.not_false, Zks, Zkt, Zku, Zkv, Zkw, Zkx, Zky, Zkz, Zla, Zlb, Zlc, Zld, Zle, Zlf, List.getElem?_cons_zero, List.getElem?_cons_succ, Zlg, Zlh, Zli, Zlj, Zlk, Zll, Zlm, Zln, Zlo, Zlp, Zlq, Zlr, Zls, Zlt, Zlu, Zlv, Zlw, Zlx, Zly, setX, Zlz, Zma, Zmb, Int.ofNat_lt, Int.ofNat_le, vec_len, hsh]
  refine lc_rng (fun i => rowD (w + 1 + h) (augT w t b i)) rfl (by simp only [wipeE, List.set_cons_zero, List.set_cons_succ]; rfl) (by omega) (fun i hi => ?_) ?_
  · have e1 : pAdd (.lst (vec w fun j => rD (t i j))) (.lst [rD (b i)]) = some (.o (.l (vec (w + 1) fun j => if j < w then rD (t i j) else rD (b i)))) := by
      rw [addL (by rw [vec_len]; simp; omega), vec_1, vec_app]
    have e2 : pAdd (.lst (vec (w + 1) fun j => if j < w then rD (t i j) else rD (b i))) (.lst (vec h fun j => rD (if j = i then 1 else 0))) = some (.o (.l (vec (w + 1 + h) fun j => rD (augT w t b i j)))) := by
      rw [addL (by rw [vec_len, vec_len]; omega), vec_app]
      congr 3
      refine vec_ext fun j hj => ?_
      unfold augT
      split
      · split <;> rfl
      · rfl
    simp -implicitDefEqProofs -dsimp only [↓Zaa, ↓Zab, ↓Zac, ↓Zad, ↓Zae, ↓Zaf, ↓Zag, ↓Zah, ↓Zai, ↓Zaj, ↓Zak, ↓Zal, ↓Zam, ↓Zan, ↓Zao, ↓Zap, ↓Zaq, ↓Zar, ↓Zas, ↓Zat, ↓Zau, ↓Zav, ↓Zaw, ↓Zax, ↓Zay, ↓Zaz, ↓Zba, ↓Zbb, ↓Zbc, ↓Zbd, ↓Zbe, ↓Zbf, ↓Zbg, ↓Zbh, ↓Zbi, ↓Zbj, ↓Zbk, ↓Zbl, ↓Zbm, ↓Zbn, ↓Zbo, ↓Zbp, ↓Zbq, ↓Zbr, ↓Zbs, ↓Zbt, ↓Zbu, ↓Zbv, ↓Zbw, ↓Zbx, ↓Zby, ↓Zbz, ↓Zca, ↓Zcb, ↓Zcc, ↓Zcd, ↓Zce, ↓Zcf, ↓Zcg, ↓Zch, ↓Zci, ↓Zcj, ↓Zck, ↓Zcl, ↓Zcm, ↓Zcn, ↓Zco, ↓Zcp, ↓Zcq, ↓Zcr, ↓Zcs, ↓Zct, ↓Zcu, ↓Zcv, ↓Zcw, ↓Zcx, ↓Zcy, ↓Zcz, ↓Zda, ↓Zdb, ↓Zdc, ↓Zdd, ↓Zde, ↓Zdf, ↓Zdg, ↓Zdh, ↓Zdi, ↓Zdj, ↓Zdk, ↓Zdl, ↓Zdm, ↓Zdn, ↓Zdo, ↓Zdp, ↓Zdq, ↓Zdr, ↓Zds, ↓Zdt, ↓Zdu, ↓Zdv, ↓Zdw, ↓Zdx, ↓Zdy, ↓Zdz, ↓Zea, ↓Zeb, ↓Zec, ↓Zed, ↓Zee, ↓Zef, ↓Zeg, ↓Zeh, ↓Zei, ↓Zej, ↓Zek, ↓Zel, ↓Zem, ↓Zen, ↓Zeo, ↓Zep, ↓Zeq, ↓Zer, ↓Zes, ↓Zet, ↓Zeu, ↓Zev, ↓Zew, ↓Zex, ↓Zey, ↓Zez, ↓Zfa, ↓Zfb, ↓Zfc, ↓Zfd, ↓Zfe, ↓Zff, ↓Zfg, ↓Zfh, ↓Zfi, ↓Zfj, ↓Zfk, ↓Zfl, ↓Zfm, ↓Zfn, ↓Zfo, ↓Zfp, ↓Zfq, ↓Zfr, ↓Zfs, ↓Zft, ↓Zfu, ↓Zfv, ↓Zfw, ↓Zfx, ↓Zfy, ↓Zfz, ↓Zga, ↓Zgb, ↓Zgc, ↓Zgd, ↓Zge, ↓Zgf, ↓Zgg, ↓Zgh, ↓Zgi, ↓Zgj, ↓Zgk, ↓Zgl, ↓Zgm, ↓Zgn, ↓Zgo, ↓Zgp, ↓Zgq, ↓Zgr, ↓Zgs, ↓Zgt, ↓Zgu, ↓Zgv, ↓Zgw, ↓Zgx, ↓Zgy, ↓Zgz, ↓Zha, ↓Zhb, ↓Zhc, ↓Zhd, ↓Zhe, ↓Zhf, ↓Zhg, ↓Zhh, ↓Zhi, ↓Zhj, ↓Zhk, ↓Zhl, ↓Zhm, ↓Zhn, ↓Zho, ↓Zhp, ↓Zhq, ↓Zhr, ↓Zhs, ↓Zht, ↓Zhu, ↓Zhv, ↓Zhw, ↓Zhx, ↓Zhy, ↓Zhz, ↓Zia, ↓Zib, ↓Zic, ↓Zid, ↓Zie, ↓Zif, ↓Zig, ↓Zih, ↓Zii, ↓Zij, ↓Zik, reduceIte, if_true, if_false, Bool.false_eq_true, Bool.and_true, Bool.true_and, Bool.and_false, Bool.false_and, Bool.or_true, Bool.true_or, Bool.or_false, Bool.false_or, Int.cast_ofNat_Int, Zil, Zim, beq_self_eq_true, Int.reduceBEq, Int.reduceLT, Int.reduceLE, Int.reduceEq, Int.reduceNeg, Nat.reduceLT, Zin, Zio, Ziq, Zir, Zis, Zit, Ziu, Ziv, Ziw, Zix, Ziy, Ziz, Zja, Zjb, Zjc, Zjd, Zje, Zjf, Zjg, Zjh, Zji, Zjj, Zjk, Zjl, Zjm, Zjn, Zjo, Zjp, Zjq, Zjr, Zjs, Zjt, Zju, Zjv, Zjw, Zjx, Zjy, Zjz, Zka, Zkb, Zkc, Zkd, Zke, Zkf, Zkg, Zkh, Zki, Zkj, Zkk, Zkl, Zkm, Zkn, Zko, Zkp, List.lookup_nil, Zkq, Zkr, Option.map_some, Option.map_none, Option.bind_some, Option.bind_none, List.map_nil, List.map_cons, List.nil_append, List.cons_append, List.append_nil, List.length_cons, List.length_nil, Nat.reduceAdd, Nat.reduceLeDiff, Nat.reduceEqDiff, Nat.reduceBEq, decide_true, decide_false, Bool.not_true, Bool.not_false, Zks, Zkt, Zku, Zkv, Zkw, Zkx, Zky, Zkz, Zla, Zlb, Zlc, Zld, Zle, Zlf, List.getElem?_cons_zero, List.getElem?_cons_succ, Zlg, Zlh, Zli, Zlj, Zlk, Zll, Zlm, Zln, Zlo, Zlp, Zlq, Zlr, Zls, Zlt, Zlu, Zlv, Zlw, Zlx, Zly, setX, Zlz, Zma, Zmb, Int.ofNat_lt, Int.ofNat_le, vec_atI hi, e1, m_unit (show h ≤ 1000 by omega), e2]
    exact ⟨rfl, rfl, trivial⟩
  · rw [tbD_eq]
    have sz : ∀ i j, i < h → j < w + 1 + h → Sz K (augT w t b i j) := fun i j hi hj => by
      unfold augT
      split
      · split
        · exact hs i j hi (by omega)
        · exact hb i hi
      · split
        · exact Sz.one.mono hK
        · exact Sz.zero.mono hK
    have q := k_elim (L := w + 1 + h) (by omega) (by omega) (by omega) hK sz l
    have sz2 := elim_sz hK sz w (by omega)
    have R := elim_red h w (augT w t b) w
    generalize elim h (augT w t b) w = s at q sz2 R ⊢
    generalize K * 5 ^ w = M at sz2 l
    have hd := R.le
    have hp : ∀ i, i < s.pv.length → s.pv.getD i 0 < w := fun i hi => by
      rw [List.getD_eq_getElem?_getD, List.getElem?_eq_getElem hi]
      exact R.lt _ (List.getElem_mem hi)
    simp -implicitDefEqProofs -dsimp only [↓Zaa, ↓Zab, ↓Zac, ↓Zad, ↓Zae, ↓Zaf, ↓Zag, ↓Zah, ↓Zai, ↓Zaj, ↓Zak, ↓Zal, ↓Zam, ↓Zan, ↓Zao, ↓Zap, ↓Zaq, ↓Zar, ↓Zas, ↓Zat, ↓Zau, ↓Zav, ↓Zaw, ↓Zax, ↓Zay, ↓Zaz, ↓Zba, ↓Zbb, ↓Zbc, ↓Zbd, ↓Zbe, ↓Zbf, ↓Zbg, ↓Zbh, ↓Zbi, ↓Zbj, ↓Zbk, ↓Zbl, ↓Zbm, ↓Zbn, ↓Zbo, ↓Zbp, ↓Zbq, ↓Zbr, ↓Zbs, ↓Zbt, ↓Zbu, ↓Zbv, ↓Zbw, ↓Zbx, ↓Zby, ↓Zbz, ↓Zca, ↓Zcb, ↓Zcc, ↓Zcd, ↓Zce, ↓Zcf, ↓Zcg, ↓Zch, ↓Zci, ↓Zcj, ↓Zck, ↓Zcl, ↓Zcm, ↓Zcn, ↓Zco, ↓Zcp, ↓Zcq, ↓Zcr, ↓Zcs, ↓Zct, ↓Zcu, ↓Zcv, ↓Zcw, ↓Zcx, ↓Zcy, ↓Zcz, ↓Zda, ↓Zdb, ↓Zdc, ↓Zdd, ↓Zde, ↓Zdf, ↓Zdg, ↓Zdh, ↓Zdi, ↓Zdj, ↓Zdk, ↓Zdl, ↓Zdm, ↓Zdn, ↓Zdo, ↓Zdp, ↓Zdq, ↓Zdr, ↓Zds, ↓Zdt, ↓Zdu, ↓Zdv, ↓Zdw, ↓Zdx, ↓Zdy, ↓Zdz, ↓Zea, ↓Zeb, ↓Zec, ↓Zed, ↓Zee, ↓Zef, ↓Zeg, ↓Zeh, ↓Zei, ↓Zej, ↓Zek, ↓Zel, ↓Zem, ↓Zen, ↓Zeo, ↓Zep, ↓Zeq, ↓Zer, ↓Zes, ↓Zet, ↓Zeu, ↓Zev, ↓Zew, ↓Zex, ↓Zey, ↓Zez, ↓Zfa, ↓Zfb, ↓Zfc, ↓Zfd, ↓Zfe, ↓Zff, ↓Zfg, ↓Zfh, ↓Zfi, ↓Zfj, ↓Zfk, ↓Zfl, ↓Zfm, ↓Zfn, ↓Zfo, ↓Zfp, ↓Zfq, ↓Zfr, ↓Zfs, ↓Zft, ↓Zfu, ↓Zfv, ↓Zfw, ↓Zfx, ↓Zfy, ↓Zfz, ↓Zga, ↓Zgb, ↓Zgc, ↓Zgd, ↓Zge, ↓Zgf, ↓Zgg, ↓Zgh, ↓Zgi, ↓Zgj, ↓Zgk, ↓Zgl, ↓Zgm, ↓Zgn, ↓Zgo, ↓Zgp, ↓Zgq, ↓Zgr, ↓Zgs, ↓Zgt, ↓Zgu, ↓Zgv, ↓Zgw, ↓Zgx, ↓Zgy, ↓Zgz, ↓Zha, ↓Zhb, ↓Zhc, ↓Zhd, ↓Zhe, ↓Zhf, ↓Zhg, ↓Zhh, ↓Zhi, ↓Zhj, ↓Zhk, ↓Zhl, ↓Zhm, ↓Zhn, ↓Zho, ↓Zhp, ↓Zhq, ↓Zhr, ↓Zhs, ↓Zht, ↓Zhu, ↓Zhv, ↓Zhw, ↓Zhx, ↓Zhy, ↓Zhz, ↓Zia, ↓Zib, ↓Zic, ↓Zid, ↓Zie, ↓Zif, ↓Zig, ↓Zih, ↓Zii, ↓Zij, ↓Zik, reduceIte, if_true, if_false, Bool.false_eq_true, Bool.and_true, Bool.true_and, Bool.and_false, Bool.false_and, Bool.or_true, Bool.true_or, Bool.or_false, Bool.false_or, Int.cast_ofNat_Int, Zil, Zim, beq_self_eq_true, Int.reduceBEq, Int.reduceLT, Int.reduceLE, Int.reduceEq, Int.reduceNeg, Nat.reduceLT, Zin, Zio, Ziq, Zir, Zis, Zit, Ziu, Ziv, Ziw, Zix, Ziy, Ziz, Zja, Zjb, Zjc, Zjd, Zje, Zjf, Zjg, Zjh, Zji, Zjj, Zjk, Zjl, Zjm, Zjn, Zjo, Zjp, Zjq, Zjr, Zjs, Zjt, Zju, Zjv, Zjw, Zjx, Zjy, Zjz, Zka, Zkb, Zkc, Zkd, Zke, Zkf, Zkg, Zkh, Zki, Zkj, Zkk, Zkl, Zkm, Zkn, Zko, Zkp, List.lookup_nil, Zkq, Zkr, Option.map_some, Option.map_none, Option.bind_some, Option.bind_none, List.map_nil, List.map_cons, List.nil_append, List.cons_append, List.append_nil, List.length_cons, List.length_nil, Nat.reduceAdd, Nat.reduceLeDiff, Nat.reduceEqDiff, Nat.reduceBEq, decide_true, decide_false, Bool.not_true, Bool.not_false, Zks, Zkt, Zku, Zkv, Zkw, Zkx, Zky, Zkz, Zla, Zlb, Zlc, Zld, Zle, Zlf, List.getElem?_cons_zero, List.getElem?_cons_succ, Zlg, Zlh, Zli, Zlj, Zlk, Zll, Zlm, Zln, Zlo, Zlp, Zlq, Zlr, Zls, Zlt, Zlu, Zlv, Zlw, Zlx, Zly, setX, Zlz, Zma, Zmb, Int.ofNat_lt, Int.ofNat_le, q, pv_len]
    rw [tb_drop]
    refine for_n (fun i e => (∀ k, s.pv.length ≤ k → k < s.pv.length + i → s.t k w = 0) ∧ ∃ x6, e = [.val (mD h w t), .val (.tup (vec h fun k => rD (b k))), .val (.int h), .own false (.l (tbD h (w + 1 + h) s.t)),   .un, .val (.lst (pvD s.pv)), x6, .un, .un, .un, .un] ∧ Fr1 x6) ?_ ?_ ?_
    · exact ⟨fun k h1 h2 => by omega, .un, rfl, .un⟩
    · rintro i e hi ⟨hz, x6, rfl, y6⟩
      have hj : w < w + 1 + h := by omega
      have e1 : ((s.t (s.pv.length + i) w).num == 0) = decide (s.t (s.pv.length + i) w = 0) := num_b _
      simp -implicitDefEqProofs -dsimp only [↓Zaa, ↓Zab, ↓Zac, ↓Zad, ↓Zae, ↓Zaf, ↓Zag, ↓Zah, ↓Zai, ↓Zaj, ↓Zak, ↓Zal, ↓Zam, ↓Zan, ↓Zao, ↓Zap, ↓Zaq, ↓Zar, ↓Zas, ↓Zat, ↓Zau, ↓Zav, ↓Zaw, ↓Zax, ↓Zay, ↓Zaz, ↓Zba, ↓Zbb, ↓Zbc, ↓Zbd, ↓Zbe, ↓Zbf, ↓Zbg, ↓Zbh, ↓Zbi, ↓Zbj, ↓Zbk, ↓Zbl, ↓Zbm, ↓Zbn, ↓Zbo, ↓Zbp, ↓Zbq, ↓Zbr, ↓Zbs, ↓Zbt, ↓Zbu, ↓Zbv, ↓Zbw, ↓Zbx, ↓Zby, ↓Zbz, ↓Zca, ↓Zcb, ↓Zcc, ↓Zcd, ↓Zce, ↓Zcf, ↓Zcg, ↓Zch, ↓Zci, ↓Zcj, ↓Zck, ↓Zcl, ↓Zcm, ↓Zcn, ↓Zco, ↓Zcp, ↓Zcq, ↓Zcr, ↓Zcs, ↓Zct, ↓Zcu, ↓Zcv, ↓Zcw, ↓Zcx, ↓Zcy, ↓Zcz, ↓Zda, ↓Zdb, ↓Zdc, ↓Zdd, ↓Zde, ↓Zdf, ↓Zdg, ↓Zdh, ↓Zdi, ↓Zdj, ↓Zdk, ↓Zdl, ↓Zdm, ↓Zdn, ↓Zdo, ↓Zdp, ↓Zdq, ↓Zdr, ↓Zds, ↓Zdt, ↓Zdu, ↓Zdv, ↓Zdw, ↓Zdx, ↓Zdy, ↓Zdz, ↓Zea, ↓Zeb, ↓Zec, ↓Zed, ↓Zee, ↓Zef, ↓Zeg, ↓Zeh, ↓Zei, ↓Zej, ↓Zek, ↓Zel, ↓Zem, ↓Zen, ↓Zeo, ↓Zep, ↓Zeq, ↓Zer, ↓Zes, ↓Zet, ↓Zeu, ↓Zev, ↓Zew, ↓Zex, ↓Zey, ↓Zez, ↓Zfa, ↓Zfb, ↓Zfc, ↓Zfd, ↓Zfe, ↓Zff, ↓Zfg, ↓Zfh, ↓Zfi, ↓Zfj, ↓Zfk, ↓Zfl, ↓Zfm, ↓Zfn, ↓Zfo, ↓Zfp, ↓Zfq, ↓Zfr, ↓Zfs, ↓Zft, ↓Zfu, ↓Zfv, ↓Zfw, ↓Zfx, ↓Zfy, ↓Zfz, ↓Zga, ↓Zgb, ↓Zgc, ↓Zgd, ↓Zge, ↓Zgf, ↓Zgg, ↓Zgh, ↓Zgi, ↓Zgj, ↓Zgk, ↓Zgl, ↓Zgm, ↓Zgn, ↓Zgo, ↓Zgp, ↓Zgq, ↓Zgr, ↓Zgs, ↓Zgt, ↓Zgu, ↓Zgv, ↓Zgw, ↓Zgx, ↓Zgy, ↓Zgz, ↓Zha, ↓Zhb, ↓Zhc, ↓Zhd, ↓Zhe, ↓Zhf, ↓Zhg, ↓Zhh, ↓Zhi, ↓Zhj, ↓Zhk, ↓Zhl, ↓Zhm, ↓Zhn, ↓Zho, ↓Zhp, ↓Zhq, ↓Zhr, ↓Zhs, ↓Zht, ↓Zhu, ↓Zhv, ↓Zhw, ↓Zhx, ↓Zhy, ↓Zhz, ↓Zia, ↓Zib, ↓Zic, ↓Zid, ↓Zie, ↓Zif, ↓Zig, ↓Zih, ↓Zii, ↓Zij, ↓Zik, reduceIte, if_true, if_false, Bool.false_eq_true, Bool.and_true, Bool.true_and, Bool.and_false, Bool.false_and, Bool.or_true, Bool.true_or, Bool.or_false, Bool.false_or, Int.cast_ofNat_Int, Zil, Zim, beq_self_eq_true, Int.reduceBEq, Int.reduceLT, Int.reduceLE, Int.reduceEq, Int.reduceNeg, Nat.reduceLT, Zin, Zio, Ziq, Zir, Zis, Zit, Ziu, Ziv, Ziw, Zix, Ziy, Ziz, Zja, Zjb, Zjc, Zjd, Zje, Zjf, Zjg, Zjh, Zji, Zjj, Zjk, Zjl, Zjm, Zjn, Zjo, Zjp, Zjq, Zjr, Zjs, Zjt, Zju, Zjv, Zjw, Zjx, Zjy, Zjz, Zka, Zkb, Zkc, Zkd, Zke, Zkf, Zkg, Zkh, Zki, Zkj, Zkk, Zkl, Zkm, Zkn, Zko, Zkp, List.lookup_nil, Zkq, Zkr, Option.map_some, Option.map_none, Option.bind_some, Option.bind_none, List.map_nil, List.map_cons, List.nil_append, List.cons_append, List.append_nil, List.length_cons, List.length_nil, Nat.reduceAdd, Nat.reduceLeDiff, Nat.reduceEqDiff, Nat.reduceBEq, decide_true, decide_false, Bool.not_true, Bool.not_false, Zks, Zkt, Zku, Zkv, Zkw, Zkx, Zky, Zkz, Zla, Zlb, Zlc, Zld, Zle, Zlf, List.getElem?_cons_zero, List.getElem?_cons_succ, Zlg, Zlh, Zli, Zlj, Zlk, Zll, Zlm, Zln, Zlo, Zlp, Zlq, Zlr, Zls, Zlt, Zlu, Zlv, Zlw, Zlx, Zly, setX, Zlz, Zma, Zmb, Int.ofNat_lt, Int.ofNat_le, y6, vec_atI hj, e1]
      by_cases h0 : s.t (s.pv.length + i) w = 0
      · have e2 : (!decide (s.t (s.pv.length + i) w = 0)) = false := by simp [h0]
        rw [e2]
        simp -implicitDefEqProofs -dsimp only [↓Zaa, ↓Zab, ↓Zac, ↓Zad, ↓Zae, ↓Zaf, ↓Zag, ↓Zah, ↓Zai, ↓Zaj, ↓Zak, ↓Zal, ↓Zam, ↓Zan, ↓Zao, ↓Zap, ↓Zaq, ↓Zar, ↓Zas, ↓Zat, ↓Zau, ↓Zav, ↓Zaw, ↓Zax, ↓Zay, ↓Zaz, ↓Zba, ↓Zbb, ↓Zbc, ↓Zbd, ↓Zbe, ↓Zbf, ↓Zbg, ↓Zbh, ↓Zbi, ↓Zbj, ↓Zbk, ↓Zbl, ↓Zbm, ↓Zbn, ↓Zbo, ↓Zbp, ↓Zbq, ↓Zbr, ↓Zbs, ↓Zbt, ↓Zbu, ↓Zbv, ↓Zbw, ↓Zbx, ↓Zby, ↓Zbz, ↓Zca, ↓Zcb, ↓Zcc, ↓Zcd, ↓Zce, ↓Zcf, ↓Zcg, ↓Zch, ↓Zci, ↓Zcj, ↓Zck, ↓Zcl, ↓Zcm, ↓Zcn, ↓Zco, ↓Zcp, ↓Zcq, ↓Zcr, ↓Zcs, ↓Zct, ↓Zcu, ↓Zcv, ↓Zcw, ↓Zcx, ↓Zcy, ↓Zcz, ↓Zda, ↓Zdb, ↓Zdc, ↓Zdd, ↓Zde, ↓Zdf, ↓Zdg, ↓Zdh, ↓Zdi, ↓Zdj, ↓Zdk, ↓Zdl, ↓Zdm, ↓Zdn, ↓Zdo, ↓Zdp, ↓Zdq, ↓Zdr, ↓Zds, ↓Zdt, ↓Zdu, ↓Zdv, ↓Zdw, ↓Zdx, ↓Zdy, ↓Zdz, ↓Zea, ↓Zeb, ↓Zec, ↓Zed, ↓Zee, ↓Zef, ↓Zeg, ↓Zeh, ↓Zei, ↓Zej, ↓Zek, ↓Zel, ↓Zem, ↓Zen, ↓Zeo, ↓Zep, ↓Zeq, ↓Zer, ↓Zes, ↓Zet, ↓Zeu, ↓Zev, ↓Zew, ↓Zex, ↓Zey, ↓Zez, ↓Zfa, ↓Zfb, ↓Zfc, ↓Zfd, ↓Zfe, ↓Zff, ↓Zfg, ↓Zfh, ↓Zfi, ↓Zfj, ↓Zfk, ↓Zfl, ↓Zfm, ↓Zfn, ↓Zfo, ↓Zfp, ↓Zfq, ↓Zfr, ↓Zfs, ↓Zft, ↓Zfu, ↓Zfv, ↓Zfw, ↓Zfx, ↓Zfy, ↓Zfz, ↓Zga, ↓Zgb, ↓Zgc, ↓Zgd, ↓Zge, ↓Zgf, ↓Zgg, ↓Zgh, ↓Zgi, ↓Zgj, ↓Zgk, ↓Zgl, ↓Zgm, ↓Zgn, ↓Zgo, ↓Zgp, ↓Zgq, ↓Zgr, ↓Zgs, ↓Zgt, ↓Zgu, ↓Zgv, ↓Zgw, ↓Zgx, ↓Zgy, ↓Zgz, ↓Zha, ↓Zhb, ↓Zhc, ↓Zhd, ↓Zhe, ↓Zhf, ↓Zhg, ↓Zhh, ↓Zhi, ↓Zhj, ↓Zhk, ↓Zhl, ↓Zhm, ↓Zhn, ↓Zho, ↓Zhp, ↓Zhq, ↓Zhr, ↓Zhs, ↓Zht, ↓Zhu, ↓Zhv, ↓Zhw, ↓Zhx, ↓Zhy, ↓Zhz, ↓Zia, ↓Zib, ↓Zic, ↓Zid, ↓Zie, ↓Zif, ↓Zig, ↓Zih, ↓Zii, ↓Zij, ↓Zik, reduceIte, if_true, if_false, Bool.false_eq_true, Bool.and_true, Bool.true_and, Bool.and_false, Bool.false_and, Bool.or_true, Bool.true_or, Bool.or_false, Bool.false_or, Int.cast_ofNat_Int, Zil, Zim, beq_self_eq_true, Int.reduceBEq, Int.reduceLT, Int.reduceLE, Int.reduceEq, Int.reduceNeg, Nat.reduceLT, Zin, Zio, Ziq, Zir, Zis, Zit, Ziu, Ziv, Ziw, Zix, Ziy, Ziz, Zja, Zjb, Zjc, Zjd, Zje, Zjf, Zjg, Zjh, Zji, Zjj, Zjk, Zjl, Zjm, Zjn, Zjo, Zjp, Zjq, Zjr, Zjs, Zjt, Zju, Zjv, Zjw, Zjx, Zjy, Zjz, Zka, Zkb, Zkc, Zkd, Zke, Zkf, Zkg, Zkh, Zki, Zkj, Zkk, Zkl, Zkm, Zkn, Zko, Zkp, List.lookup_nil, Zkq, Zkr, Option.map_some, Option.map_none, Option.bind_some, Option.bind_none, List.map_nil, List.map_cons, List.nil_append, List.cons_append, List.append_nil, List.length_cons, List.length_nil, Nat.reduceAdd, Nat.reduceLeDiff, Nat.reduceEqDiff, Nat.reduceBEq, decide_true, decide_false, Bool.not_true, Bool.not_false, Zks, Zkt, Zku, Zkv, Zkw, Zkx, Zky, Zkz, Zla, Zlb, Zlc, Zld, Zle, Zlf, List.getElem?_cons_zero, List.getElem?_cons_succ, Zlg, Zlh, Zli, Zlj, Zlk, Zll, Zlm, Zln, Zlo, Zlp, Zlq, Zlr, Zls, Zlt, Zlu, Zlv, Zlw, Zlx, Zly, setX, Zlz, Zma, Zmb, Int.ofNat_lt, Int.ofNat_le]
        refine ⟨fun k h1 h2 => ?_, _, rfl, .val⟩
        by_cases e : k = s.pv.length + i
        · rw [e]; exact h0
        · exact hz k h1 (by omega)
      · have e2 : (!decide (s.t (s.pv.length + i) w = 0)) = true := by simp [h0]
        have hf : firstR h s.t w s.pv.length = some (s.pv.length + i) := firstR_is (by omega) (by omega) h0 fun k h1 h2 => hz k h1 h2
        have e3 : (w : Int) + 1 = ((w + 1 : Nat) : Int) := by omega
        have e4 : (vec (w + 1 + h) fun j => rD (s.t (s.pv.length + i) j)).drop (w + 1) = vec h fun k => rD (s.t (s.pv.length + i) (w + 1 + k)) := by
          rw [vec_drop, show w + 1 + h - (w + 1) = h by omega]
        rw [e2, hf]
        simp -implicitDefEqProofs -dsimp only [↓Zaa, ↓Zab, ↓Zac, ↓Zad, ↓Zae, ↓Zaf, ↓Zag, ↓Zah, ↓Zai, ↓Zaj, ↓Zak, ↓Zal, ↓Zam, ↓Zan, ↓Zao, ↓Zap, ↓Zaq, ↓Zar, ↓Zas, ↓Zat, ↓Zau, ↓Zav, ↓Zaw, ↓Zax, ↓Zay, ↓Zaz, ↓Zba, ↓Zbb, ↓Zbc, ↓Zbd, ↓Zbe, ↓Zbf, ↓Zbg, ↓Zbh, ↓Zbi, ↓Zbj, ↓Zbk, ↓Zbl, ↓Zbm, ↓Zbn, ↓Zbo, ↓Zbp, ↓Zbq, ↓Zbr, ↓Zbs, ↓Zbt, ↓Zbu, ↓Zbv, ↓Zbw, ↓Zbx, ↓Zby, ↓Zbz, ↓Zca, ↓Zcb, ↓Zcc, ↓Zcd, ↓Zce, ↓Zcf, ↓Zcg, ↓Zch, ↓Zci, ↓Zcj, ↓Zck, ↓Zcl, ↓Zcm, ↓Zcn, ↓Zco, ↓Zcp, ↓Zcq, ↓Zcr, ↓Zcs, ↓Zct, ↓Zcu, ↓Zcv, ↓Zcw, ↓Zcx, ↓Zcy, ↓Zcz, ↓Zda, ↓Zdb, ↓Zdc, ↓Zdd, ↓Zde, ↓Zdf, ↓Zdg, ↓Zdh, ↓Zdi, ↓Zdj, ↓Zdk, ↓Zdl, ↓Zdm, ↓Zdn, ↓Zdo, ↓Zdp, ↓Zdq, ↓Zdr, ↓Zds, ↓Zdt, ↓Zdu, ↓Zdv, ↓Zdw, ↓Zdx, ↓Zdy, ↓Zdz, ↓Zea, ↓Zeb, ↓Zec, ↓Zed, ↓Zee, ↓Zef, ↓Zeg, ↓Zeh, ↓Zei, ↓Zej, ↓Zek, ↓Zel, ↓Zem, ↓Zen, ↓Zeo, ↓Zep, ↓Zeq, ↓Zer, ↓Zes, ↓Zet, ↓Zeu, ↓Zev, ↓Zew, ↓Zex, ↓Zey, ↓Zez, ↓Zfa, ↓Zfb, ↓Zfc, ↓Zfd, ↓Zfe, ↓Zff, ↓Zfg, ↓Zfh, ↓Zfi, ↓Zfj, ↓Zfk, ↓Zfl, ↓Zfm, ↓Zfn, ↓Zfo, ↓Zfp, ↓Zfq, ↓Zfr, ↓Zfs, ↓Zft, ↓Zfu, ↓Zfv, ↓Zfw, ↓Zfx, ↓Zfy, ↓Zfz, ↓Zga, ↓Zgb, ↓Zgc, ↓Zgd, ↓Zge, ↓Zgf, ↓Zgg, ↓Zgh, ↓Zgi, ↓Zgj, ↓Zgk, ↓Zgl, ↓Zgm, ↓Zgn, ↓Zgo, ↓Zgp, ↓Zgq, ↓Zgr, ↓Zgs, ↓Zgt, ↓Zgu, ↓Zgv, ↓Zgw, ↓Zgx, ↓Zgy, ↓Zgz, ↓Zha, ↓Zhb, ↓Zhc, ↓Zhd, ↓Zhe, ↓Zhf, ↓Zhg, ↓Zhh, ↓Zhi, ↓Zhj, ↓Zhk, ↓Zhl, ↓Zhm, ↓Zhn, ↓Zho, ↓Zhp, ↓Zhq, ↓Zhr, ↓Zhs, ↓Zht, ↓Zhu, ↓Zhv, ↓Zhw, ↓Zhx, ↓Zhy, ↓Zhz, ↓Zia, ↓Zib, ↓Zic, ↓Zid, ↓Zie, ↓Zif, ↓Zig, ↓Zih, ↓Zii, ↓Zij, ↓Zik, reduceIte, if_true, if_false, Bool.false_eq_true, Bool.and_true, Bool.true_and, Bool.and_false, Bool.false_and, Bool.or_true, Bool.true_or, Bool.or_false, Bool.false_or, Int.cast_ofNat_Int, Zil, Zim, beq_self_eq_true, Int.reduceBEq, Int.reduceLT, Int.reduceLE, Int.reduceEq, Int.reduceNeg, Nat.reduceLT, Zin, Zio, Ziq, Zir, Zis, Zit, Ziu, Ziv, Ziw, Zix, Ziy, Ziz, Zja, Zjb, Zjc, Zjd, Zje, Zjf, Zjg, Zjh, Zji, Zjj, Zjk, Zjl, Zjm, Zjn, Zjo, Zjp, Zjq, Zjr, Zjs, Zjt, Zju, Zjv, Zjw, Zjx, Zjy, Zjz, Zka, Zkb, Zkc, Zkd, Zke, Zkf, Zkg, Zkh, Zki, Zkj, Zkk, Zkl, Zkm, Zkn, Zko, Zkp, List.lookup_nil, Zkq, Zkr, Option.map_some, Option.map_none, Option.bind_some, Option.bind_none, List.map_nil, List.map_cons, List.nil_append, List.cons_append, List.append_nil, List.length_cons, List.length_nil, Nat.reduceAdd, Nat.reduceLeDiff, Nat.reduceEqDiff, Nat.reduceBEq, decide_true, decide_false, Bool.not_true, Bool.not_false, Zks, Zkt, Zku, Zkv, Zkw, Zkx, Zky, Zkz, Zla, Zlb, Zlc, Zld, Zle, Zlf, List.getElem?_cons_zero, List.getElem?_cons_succ, Zlg, Zlh, Zli, Zlj, Zlk, Zll, Zlm, Zln, Zlo, Zlp, Zlq, Zlr, Zls, Zlt, Zlu, Zlv, Zlw, Zlx, Zly, setX, Zlz, Zma, Zmb, Int.ofNat_lt, Int.ofNat_le, e3]
        rw [e4]
        refine lc_vec (fun k => rD (s.t (s.pv.length + i) (w + 1 + k) * (s.t (s.pv.length + i) w)⁻¹)) rfl (by simp only [wipeE, List.set_cons_zero, List.set_cons_succ]; rfl) (by omega) (fun k hk => ?_) ?_
        · simp -implicitDefEqProofs -dsimp only [↓Zaa, ↓Zab, ↓Zac, ↓Zad, ↓Zae, ↓Zaf, ↓Zag, ↓Zah, ↓Zai, ↓Zaj, ↓Zak, ↓Zal, ↓Zam, ↓Zan, ↓Zao, ↓Zap, ↓Zaq, ↓Zar, ↓Zas, ↓Zat, ↓Zau, ↓Zav, ↓Zaw, ↓Zax, ↓Zay, ↓Zaz, ↓Zba, ↓Zbb, ↓Zbc, ↓Zbd, ↓Zbe, ↓Zbf, ↓Zbg, ↓Zbh, ↓Zbi, ↓Zbj, ↓Zbk, ↓Zbl, ↓Zbm, ↓Zbn, ↓Zbo, ↓Zbp, ↓Zbq, ↓Zbr, ↓Zbs, ↓Zbt, ↓Zbu, ↓Zbv, ↓Zbw, ↓Zbx, ↓Zby, ↓Zbz, ↓Zca, ↓Zcb, ↓Zcc, ↓Zcd, ↓Zce, ↓Zcf, ↓Zcg, ↓Zch, ↓Zci, ↓Zcj, ↓Zck, ↓Zcl, ↓Zcm, ↓Zcn, ↓Zco, ↓Zcp, ↓Zcq, ↓Zcr, ↓Zcs, ↓Zct, ↓Zcu, ↓Zcv, ↓Zcw, ↓Zcx, ↓Zcy, ↓Zcz, ↓Zda, ↓Zdb, ↓Zdc, ↓Zdd, ↓Zde, ↓Zdf, ↓Zdg, ↓Zdh, ↓Zdi, ↓Zdj, ↓Zdk, ↓Zdl, ↓Zdm, ↓Zdn, ↓Zdo, ↓Zdp, ↓Zdq, ↓Zdr, ↓Zds, ↓Zdt, ↓Zdu, ↓Zdv, ↓Zdw, ↓Zdx, ↓Zdy, ↓Zdz, ↓Zea, ↓Zeb, ↓Zec, ↓Zed, ↓Zee, ↓Zef, ↓Zeg, ↓Zeh, ↓Zei, ↓Zej, ↓Zek, ↓Zel, ↓Zem, ↓Zen, ↓Zeo, ↓Zep, ↓Zeq, ↓Zer, ↓Zes, ↓Zet, ↓Zeu, ↓Zev, ↓Zew, ↓Zex, ↓Zey, ↓Zez, ↓Zfa, ↓Zfb, ↓Zfc, ↓Zfd, ↓Zfe, ↓Zff, ↓Zfg, ↓Zfh, ↓Zfi, ↓Zfj, ↓Zfk, ↓Zfl, ↓Zfm, ↓Zfn, ↓Zfo, ↓Zfp, ↓Zfq, ↓Zfr, ↓Zfs, ↓Zft, ↓Zfu, ↓Zfv, ↓Zfw, ↓Zfx, ↓Zfy, ↓Zfz, ↓Zga, ↓Zgb, ↓Zgc, ↓Zgd, ↓Zge, ↓Zgf, ↓Zgg, ↓Zgh, ↓Zgi, ↓Zgj, ↓Zgk, ↓Zgl, ↓Zgm, ↓Zgn, ↓Zgo, ↓Zgp, ↓Zgq, ↓Zgr, ↓Zgs, ↓Zgt, ↓Zgu, ↓Zgv, ↓Zgw, ↓Zgx, ↓Zgy, ↓Zgz, ↓Zha, ↓Zhb, ↓Zhc, ↓Zhd, ↓Zhe, ↓Zhf, ↓Zhg, ↓Zhh, ↓Zhi, ↓Zhj, ↓Zhk, ↓Zhl, ↓Zhm, ↓Zhn, ↓Zho, ↓Zhp, ↓Zhq, ↓Zhr, ↓Zhs, ↓Zht, ↓Zhu, ↓Zhv, ↓Zhw, ↓Zhx, ↓Zhy, ↓Zhz, ↓Zia, ↓Zib, ↓Zic, ↓Zid, ↓Zie, ↓Zif, ↓Zig, ↓Zih, ↓Zii, ↓Zij, ↓Zik, reduceIte, if_true, if_false, Bool.false_eq_true, Bool.and_true, Bool.true_and, Bool.and_false, Bool.false_and, Bool.or_true, Bool.true_or, Bool.or_false, Bool.false_or, Int.cast_ofNat_Int, Zil, Zim, beq_self_eq_true, Int.reduceBEq, Int.reduceLT, Int.reduceLE, Int.reduceEq, Int.reduceNeg, Nat.reduceLT, Zin, Zio, Ziq, Zir, Zis, Zit, Ziu, Ziv, Ziw, Zix, Ziy, Ziz, Zja, Zjb, Zjc, Zjd, Zje, Zjf, Zjg, Zjh, Zji, Zjj, Zjk, Zjl, Zjm, Zjn, Zjo, Zjp, Zjq, Zjr, Zjs, Zjt, Zju, Zjv, Zjw, Zjx, Zjy, Zjz, Zka, Zkb, Zkc, Zkd, Zke, Zkf, Zkg, Zkh, Zki, Zkj, Zkk, Zkl, Zkm, Zkn, Zko, Zkp, List.lookup_nil, Zkq, Zkr, Option.map_some, Option.map_none, Option.bind_some, Option.bind_none, List.map_nil, List.map_cons, List.nil_append, List.cons_append, List.append_nil, List.length_cons, List.length_nil, Nat.reduceAdd, Nat.reduceLeDiff, Nat.reduceEqDiff, Nat.reduceBEq, decide_true, decide_false, Bool.not_true, Bool.not_false, Zks, Zkt, Zku, Zkv, Zkw, Zkx, Zky, Zkz, Zla, Zlb, Zlc, Zld, Zle, Zlf, List.getElem?_cons_zero, List.getElem?_cons_succ, Zlg, Zlh, Zli, Zlj, Zlk, Zll, Zlm, Zln, Zlo, Zlp, Zlq, Zlr, Zls, Zlt, Zlu, Zlv, Zlw, Zlx, Zly, setX, Zlz, Zma, Zmb, Int.ofNat_lt, Int.ofNat_le, vec_atI hj, m_over (sz2 (s.pv.length + i) (w + 1 + k) (by omega) (by omega)) (sz2 (s.pv.length + i) w (by omega) (by omega)) h0 (by omega)]
          exact ⟨rfl, rfl, trivial⟩
        · simp -implicitDefEqProofs -dsimp only [↓Zaa, ↓Zab, ↓Zac, ↓Zad, ↓Zae, ↓Zaf, ↓Zag, ↓Zah, ↓Zai, ↓Zaj, ↓Zak, ↓Zal, ↓Zam, ↓Zan, ↓Zao, ↓Zap, ↓Zaq, ↓Zar, ↓Zas, ↓Zat, ↓Zau, ↓Zav, ↓Zaw, ↓Zax, ↓Zay, ↓Zaz, ↓Zba, ↓Zbb, ↓Zbc, ↓Zbd, ↓Zbe, ↓Zbf, ↓Zbg, ↓Zbh, ↓Zbi, ↓Zbj, ↓Zbk, ↓Zbl, ↓Zbm, ↓Zbn, ↓Zbo, ↓Zbp, ↓Zbq, ↓Zbr, ↓Zbs, ↓Zbt, ↓Zbu, ↓Zbv, ↓Zbw, ↓Zbx, ↓Zby, ↓Zbz, ↓Zca, ↓Zcb, ↓Zcc, ↓Zcd, ↓Zce, ↓Zcf, ↓Zcg, ↓Zch, ↓Zci, ↓Zcj, ↓Zck, ↓Zcl, ↓Zcm, ↓Zcn, ↓Zco, ↓Zcp, ↓Zcq, ↓Zcr, ↓Zcs, ↓Zct, ↓Zcu, ↓Zcv, ↓Zcw, ↓Zcx, ↓Zcy, ↓Zcz, ↓Zda, ↓Zdb, ↓Zdc, ↓Zdd, ↓Zde, ↓Zdf, ↓Zdg, ↓Zdh, ↓Zdi, ↓Zdj, ↓Zdk, ↓Zdl, ↓Zdm, ↓Zdn, ↓Zdo, ↓Zdp, ↓Zdq, ↓Zdr, ↓Zds, ↓Zdt, ↓Zdu, ↓Zdv, ↓Zdw, ↓Zdx, ↓Zdy, ↓Zdz, ↓Zea, ↓Zeb, ↓Zec, ↓Zed, ↓Zee, ↓Zef, ↓Zeg, ↓Zeh, ↓Zei, ↓Zej, ↓Zek, ↓Zel, ↓Zem, ↓Zen, ↓Zeo, ↓Zep, ↓Zeq, ↓Zer, ↓Zes, ↓Zet, ↓Zeu, ↓Zev, ↓Zew, ↓Zex, ↓Zey, ↓Zez, ↓Zfa, ↓Zfb, ↓Zfc, ↓Zfd, ↓Zfe, ↓Zff, ↓Zfg, ↓Zfh, ↓Zfi, ↓Zfj, ↓Zfk, ↓Zfl, ↓Zfm, ↓Zfn, ↓Zfo, ↓Zfp, ↓Zfq, ↓Zfr, ↓Zfs, ↓Zft, ↓Zfu, ↓Zfv, ↓Zfw, ↓Zfx, ↓Zfy, ↓Zfz, ↓Zga, ↓Zgb, ↓Zgc, ↓Zgd, ↓Zge, ↓Zgf, ↓Zgg, ↓Zgh, ↓Zgi, ↓Zgj, ↓Zgk, ↓Zgl, ↓Zgm, ↓Zgn, ↓Zgo, ↓Zgp, ↓Zgq, ↓Zgr, ↓Zgs, ↓Zgt, ↓Zgu, ↓Zgv, ↓Zgw, ↓Zgx, ↓Zgy, ↓Zgz, ↓Zha, ↓Zhb, ↓Zhc, ↓Zhd, ↓Zhe, ↓Zhf, ↓Zhg, ↓Zhh, ↓Zhi, ↓Zhj, ↓Zhk, ↓Zhl, ↓Zhm, ↓Zhn, ↓Zho, ↓Zhp, ↓Zhq, ↓Zhr, ↓Zhs, ↓Zht, ↓Zhu, ↓Zhv, ↓Zhw, ↓Zhx, ↓Zhy, ↓Zhz, ↓Zia, ↓Zib, ↓Zic, ↓Zid, ↓Zie, ↓Zif, ↓Zig, ↓Zih, ↓Zii, ↓Zij, ↓Zik, reduceIte, if_true, if_false, Bool.false_eq_true, Bool.and_true, Bool.true_and, Bool.and_false, Bool.false_and, Bool.or_true, Bool.true_or, Bool.or_false, Bool.false_or, Int.cast_ofNat_Int, Zil, Zim, beq_self_eq_true, Int.reduceBEq, Int.reduceLT, Int.reduceLE, Int.reduceEq, Int.reduceNeg, Nat.reduceLT, Zin, Zio, Ziq, Zir, Zis, Zit, Ziu, Ziv, Ziw, Zix, Ziy, Ziz, Zja, Zjb, Zjc, Zjd, Zje, Zjf, Zjg, Zjh, Zji, Zjj, Zjk, Zjl, Zjm, Zjn, Zjo, Zjp, Zjq, Zjr, Zjs, Zjt, Zju, Zjv, Zjw, Zjx, Zjy, Zjz, Zka, Zkb, Zkc, Zkd, Zke, Zkf, Zkg, Zkh, Zki, Zkj, Zkk, Zkl, Zkm, Zkn, Zko, Zkp, List.lookup_nil, Zkq, Zkr, Option.map_some, Option.map_none, Option.bind_some, Option.bind_none, List.map_nil, List.map_cons, List.nil_append, List.cons_append, List.append_nil, List.length_cons, List.length_nil, Nat.reduceAdd, Nat.reduceLeDiff, Nat.reduceEqDiff, Nat.reduceBEq, decide_true, decide_false, Bool.not_true, Bool.not_false, Zks, Zkt, Zku, Zkv, Zkw, Zkx, Zky, Zkz, Zla, Zlb, Zlc, Zld, Zle, Zlf, List.getElem?_cons_zero, List.getElem?_cons_succ, Zlg, Zlh, Zli, Zlj, Zlk, Zll, Zlm, Zln, Zlo, Zlp, Zlq, Zlr, Zls, Zlt, Zlu, Zlv, Zlw, Zlx, Zly, setX, Zlz, Zma, Zmb, Int.ofNat_lt, Int.ofNat_le]
    · rintro e ⟨hz, x6, rfl, y6⟩
      have hf : firstR h s.t w s.pv.length = none := firstR_no fun k h1 h2 => hz k h1 (by omega)
      rw [hf]
      simp -implicitDefEqProofs -dsimp only [↓Zaa, ↓Zab, ↓Zac, ↓Zad, ↓Zae, ↓Zaf, ↓Zag, ↓Zah, ↓Zai, ↓Zaj, ↓Zak, ↓Zal, ↓Zam, ↓Zan, ↓Zao, ↓Zap, ↓Zaq, ↓Zar, ↓Zas, ↓Zat, ↓Zau, ↓Zav, ↓Zaw, ↓Zax, ↓Zay, ↓Zaz, ↓Zba, ↓Zbb, ↓Zbc, ↓Zbd, ↓Zbe, ↓Zbf, ↓Zbg, ↓Zbh, ↓Zbi, ↓Zbj, ↓Zbk, ↓Zbl, ↓Zbm, ↓Zbn, ↓Zbo, ↓Zbp, ↓Zbq, ↓Zbr, ↓Zbs, ↓Zbt, ↓Zbu, ↓Zbv, ↓Zbw, ↓Zbx, ↓Zby, ↓Zbz, ↓Zca, ↓Zcb, ↓Zcc, ↓Zcd, ↓Zce, ↓Zcf, ↓Zcg, ↓Zch, ↓Zci, ↓Zcj, ↓Zck, ↓Zcl, ↓Zcm, ↓Zcn, ↓Zco, ↓Zcp, ↓Zcq, ↓Zcr, ↓Zcs, ↓Zct, ↓Zcu, ↓Zcv, ↓Zcw, ↓Zcx, ↓Zcy, ↓Zcz, ↓Zda, ↓Zdb, ↓Zdc, ↓Zdd, ↓Zde, ↓Zdf, ↓Zdg, ↓Zdh, ↓Zdi, ↓Zdj, ↓Zdk, ↓Zdl, ↓Zdm, ↓Zdn, ↓Zdo, ↓Zdp, ↓Zdq, ↓Zdr, ↓Zds, ↓Zdt, ↓Zdu, ↓Zdv, ↓Zdw, ↓Zdx, ↓Zdy, ↓Zdz, ↓Zea, ↓Zeb, ↓Zec, ↓Zed, ↓Zee, ↓Zef, ↓Zeg, ↓Zeh, ↓Zei, ↓Zej, ↓Zek, ↓Zel, ↓Zem, ↓Zen, ↓Zeo, ↓Zep, ↓Zeq, ↓Zer, ↓Zes, ↓Zet, ↓Zeu, ↓Zev, ↓Zew, ↓Zex, ↓Zey, ↓Zez, ↓Zfa, ↓Zfb, ↓Zfc, ↓Zfd, ↓Zfe, ↓Zff, ↓Zfg, ↓Zfh, ↓Zfi, ↓Zfj, ↓Zfk, ↓Zfl, ↓Zfm, ↓Zfn, ↓Zfo, ↓Zfp, ↓Zfq, ↓Zfr, ↓Zfs, ↓Zft, ↓Zfu, ↓Zfv, ↓Zfw, ↓Zfx, ↓Zfy, ↓Zfz, ↓Zga, ↓Zgb, ↓Zgc, ↓Zgd, ↓Zge, ↓Zgf, ↓Zgg, ↓Zgh, ↓Zgi, ↓Zgj, ↓Zgk, ↓Zgl, ↓Zgm, ↓Zgn, ↓Zgo, ↓Zgp, ↓Zgq, ↓Zgr, ↓Zgs, ↓Zgt, ↓Zgu, ↓Zgv, ↓Zgw, ↓Zgx, ↓Zgy, ↓Zgz, ↓Zha, ↓Zhb, ↓Zhc, ↓Zhd, ↓Zhe, ↓Zhf, ↓Zhg, ↓Zhh, ↓Zhi, ↓Zhj, ↓Zhk, ↓Zhl, ↓Zhm, ↓Zhn, ↓Zho, ↓Zhp, ↓Zhq, ↓Zhr, ↓Zhs, ↓Zht, ↓Zhu, ↓Zhv, ↓Zhw, ↓Zhx, ↓Zhy, ↓Zhz, ↓Zia, ↓Zib, ↓Zic, ↓Zid, ↓Zie, ↓Zif, ↓Zig, ↓Zih, ↓Zii, ↓Zij, ↓Zik, reduceIte, if_true, if_false, Bool.false_eq_true, Bool.and_true, Bool.true_and, Bool.and_false, Bool.false_and, Bool.or_true, Bool.true_or, Bool.or_false, Bool.false_or, Int.cast_ofNat_Int, Zil, Zim, beq_self_eq_true, Int.reduceBEq, Int.reduceLT, Int.reduceLE, Int.reduceEq, Int.reduceNeg, Nat.reduceLT, Zin, Zio, Ziq, Zir, Zis, Zit, Ziu, Ziv, Ziw, Zix, Ziy, Ziz, Zja, Zjb, Zjc, Zjd, Zje, Zjf, Zjg, Zjh, Zji, Zjj, Zjk, Zjl, Zjm, Zjn, Zjo, Zjp, Zjq, Zjr, Zjs, Zjt, Zju, Zjv, Zjw, Zjx, Zjy, Zjz, Zka, Zkb, Zkc, Zkd, Zke, Zkf, Zkg, Zkh, Zki, Zkj, Zkk, Zkl, Zkm, Zkn, Zko, Zkp, List.lookup_nil, Zkq, Zkr, Option.map_some, Option.map_none, Option.bind_some, Option.bind_none, List.map_nil, List.map_cons, List.nil_append, List.cons_append, List.append_nil, List.length_cons, List.length_nil, Nat.reduceAdd, Nat.reduceLeDiff, Nat.reduceEqDiff, Nat.reduceBEq, decide_true, decide_false, Bool.not_true, Bool.not_false, Zks, Zkt, Zku, Zkv, Zkw, Zkx, Zky, Zkz, Zla, Zlb, Zlc, Zld, Zle, Zlf, List.getElem?_cons_zero, List.getElem?_cons_succ, Zlg, Zlh, Zli, Zlj, Zlk, Zll, Zlm, Zln, Zlo, Zlp, Zlq, Zlr, Zls, Zlt, Zlu, Zlv, Zlw, Zlx, Zly, setX, Zlz, Zma, Zmb, Int.ofNat_lt, Int.ofNat_le, hsw]
      refine lc_rng (fun i => rD 0) rfl (by simp only [wipeE, List.set_cons_zero, List.set_cons_succ]; rfl) (by omega) (fun i hi => ?_) ?_
      · simp -implicitDefEqProofs -dsimp only [↓Zaa, ↓Zab, ↓Zac, ↓Zad, ↓Zae, ↓Zaf, ↓Zag, ↓Zah, ↓Zai, ↓Zaj, ↓Zak, ↓Zal, ↓Zam, ↓Zan, ↓Zao, ↓Zap, ↓Zaq, ↓Zar, ↓Zas, ↓Zat, ↓Zau, ↓Zav, ↓Zaw, ↓Zax, ↓Zay, ↓Zaz, ↓Zba, ↓Zbb, ↓Zbc, ↓Zbd, ↓Zbe, ↓Zbf, ↓Zbg, ↓Zbh, ↓Zbi, ↓Zbj, ↓Zbk, ↓Zbl, ↓Zbm, ↓Zbn, ↓Zbo, ↓Zbp, ↓Zbq, ↓Zbr, ↓Zbs, ↓Zbt, ↓Zbu, ↓Zbv, ↓Zbw, ↓Zbx, ↓Zby, ↓Zbz, ↓Zca, ↓Zcb, ↓Zcc, ↓Zcd, ↓Zce, ↓Zcf, ↓Zcg, ↓Zch, ↓Zci, ↓Zcj, ↓Zck, ↓Zcl, ↓Zcm, ↓Zcn, ↓Zco, ↓Zcp, ↓Zcq, ↓Zcr, ↓Zcs, ↓Zct, ↓Zcu, ↓Zcv, ↓Zcw, ↓Zcx, ↓Zcy, ↓Zcz, ↓Zda, ↓Zdb, ↓Zdc, ↓Zdd, ↓Zde, ↓Zdf, ↓Zdg, ↓Zdh, ↓Zdi, ↓Zdj, ↓Zdk, ↓Zdl, ↓Zdm, ↓Zdn, ↓Zdo, ↓Zdp, ↓Zdq, ↓Zdr, ↓Zds, ↓Zdt, ↓Zdu, ↓Zdv, ↓Zdw, ↓Zdx, ↓Zdy, ↓Zdz, ↓Zea, ↓Zeb, ↓Zec, ↓Zed, ↓Zee, ↓Zef, ↓Zeg, ↓Zeh, ↓Zei, ↓Zej, ↓Zek, ↓Zel, ↓Zem, ↓Zen, ↓Zeo, ↓Zep, ↓Zeq, ↓Zer, ↓Zes, ↓Zet, ↓Zeu, ↓Zev, ↓Zew, ↓Zex, ↓Zey, ↓Zez, ↓Zfa, ↓Zfb, ↓Zfc, ↓Zfd, ↓Zfe, ↓Zff, ↓Zfg, ↓Zfh, ↓Zfi, ↓Zfj, ↓Zfk, ↓Zfl, ↓Zfm, ↓Zfn, ↓Zfo, ↓Zfp, ↓Zfq, ↓Zfr, ↓Zfs, ↓Zft, ↓Zfu, ↓Zfv, ↓Zfw, ↓Zfx, ↓Zfy, ↓Zfz, ↓Zga, ↓Zgb, ↓Zgc, ↓Zgd, ↓Zge, ↓Zgf, ↓Zgg, ↓Zgh, ↓Zgi, ↓Zgj, ↓Zgk, ↓Zgl, ↓Zgm, ↓Zgn, ↓Zgo, ↓Zgp, ↓Zgq, ↓Zgr, ↓Zgs, ↓Zgt, ↓Zgu, ↓Zgv, ↓Zgw, ↓Zgx, ↓Zgy, ↓Zgz, ↓Zha, ↓Zhb, ↓Zhc, ↓Zhd, ↓Zhe, ↓Zhf, ↓Zhg, ↓Zhh, ↓Zhi, ↓Zhj, ↓Zhk, ↓Zhl, ↓Zhm, ↓Zhn, ↓Zho, ↓Zhp, ↓Zhq, ↓Zhr, ↓Zhs, ↓Zht, ↓Zhu, ↓Zhv, ↓Zhw, ↓Zhx, ↓Zhy, ↓Zhz, ↓Zia, ↓Zib, ↓Zic, ↓Zid, ↓Zie, ↓Zif, ↓Zig, ↓Zih, ↓Zii, ↓Zij, ↓Zik, reduceIte, if_true, if_false, Bool.false_eq_true, Bool.and_true, Bool.true_and, Bool.and_false, Bool.false_and, Bool.or_true, Bool.true_or, Bool.or_false, Bool.false_or, Int.cast_ofNat_Int, Zil, Zim, beq_self_eq_true, Int.reduceBEq, Int.reduceLT, Int.reduceLE, Int.reduceEq, Int.reduceNeg, Nat.reduceLT, Zin, Zio, Ziq, Zir, Zis, Zit, Ziu, Ziv, Ziw, Zix, Ziy, Ziz, Zja, Zjb, Zjc, Zjd, Zje, Zjf, Zjg, Zjh, Zji, Zjj, Zjk, Zjl, Zjm, Zjn, Zjo, Zjp, Zjq, Zjr, Zjs, Zjt, Zju, Zjv, Zjw, Zjx, Zjy, Zjz, Zka, Zkb, Zkc, Zkd, Zke, Zkf, Zkg, Zkh, Zki, Zkj, Zkk, Zkl, Zkm, Zkn, Zko, Zkp, List.lookup_nil, Zkq, Zkr, Option.map_some, Option.map_none, Option.bind_some, Option.bind_none, List.map_nil, List.map_cons, List.nil_append, List.cons_append, List.append_nil, List.length_cons, List.length_nil, Nat.reduceAdd, Nat.reduceLeDiff, Nat.reduceEqDiff, Nat.reduceBEq, decide_true, decide_false, Bool.not_true, Bool.not_false, Zks, Zkt, Zku, Zkv, Zkw, Zkx, Zky, Zkz, Zla, Zlb, Zlc, Zld, Zle, Zlf, List.getElem?_cons_zero, List.getElem?_cons_succ, Zlg, Zlh, Zli, Zlj, Zlk, Zll, Zlm, Zln, Zlo, Zlp, Zlq, Zlr, Zls, Zlt, Zlu, Zlv, Zlw, Zlx, Zly, setX, Zlz, Zma, Zmb, Int.ofNat_lt, Int.ofNat_le, i_rat 0 1 (by decide) (show Rat.divInt 0 1 = 0 by decide)]
        exact ⟨rfl, rfl, trivial⟩
      · have zp : zipD (tbD h (w + 1 + h) s.t) (pvD s.pv) = vec s.pv.length fun i => .tup [rowD (w + 1 + h) (s.t i), .int ((s.pv.getD i 0 : Nat) : Int)] := by
          unfold tbD
          rw [pv_vec, vec_zip2 hd]
        have hj : w < w + 1 + h := by omega
        simp -implicitDefEqProofs -dsimp only [↓Zaa, ↓Zab, ↓Zac, ↓Zad, ↓Zae, ↓Zaf, ↓Zag, ↓Zah, ↓Zai, ↓Zaj, ↓Zak, ↓Zal, ↓Zam, ↓Zan, ↓Zao, ↓Zap, ↓Zaq, ↓Zar, ↓Zas, ↓Zat, ↓Zau, ↓Zav, ↓Zaw, ↓Zax, ↓Zay, ↓Zaz, ↓Zba, ↓Zbb, ↓Zbc, ↓Zbd, ↓Zbe, ↓Zbf, ↓Zbg, ↓Zbh, ↓Zbi, ↓Zbj, ↓Zbk, ↓Zbl, ↓Zbm, ↓Zbn, ↓Zbo, ↓Zbp, ↓Zbq, ↓Zbr, ↓Zbs, ↓Zbt, ↓Zbu, ↓Zbv, ↓Zbw, ↓Zbx, ↓Zby, ↓Zbz, ↓Zca, ↓Zcb, ↓Zcc, ↓Zcd, ↓Zce, ↓Zcf, ↓Zcg, ↓Zch, ↓Zci, ↓Zcj, ↓Zck, ↓Zcl, ↓Zcm, ↓Zcn, ↓Zco, ↓Zcp, ↓Zcq, ↓Zcr, ↓Zcs, ↓Zct, ↓Zcu, ↓Zcv, ↓Zcw, ↓Zcx, ↓Zcy, ↓Zcz, ↓Zda, ↓Zdb, ↓Zdc, ↓Zdd, ↓Zde, ↓Zdf, ↓Zdg, ↓Zdh, ↓Zdi, ↓Zdj, ↓Zdk, ↓Zdl, ↓Zdm, ↓Zdn, ↓Zdo, ↓Zdp, ↓Zdq, ↓Zdr, ↓Zds, ↓Zdt, ↓Zdu, ↓Zdv, ↓Zdw, ↓Zdx, ↓Zdy, ↓Zdz, ↓Zea, ↓Zeb, ↓Zec, ↓Zed, ↓Zee, ↓Zef, ↓Zeg, ↓Zeh, ↓Zei, ↓Zej, ↓Zek, ↓Zel, ↓Zem, ↓Zen, ↓Zeo, ↓Zep, ↓Zeq, ↓Zer, ↓Zes, ↓Zet, ↓Zeu, ↓Zev, ↓Zew, ↓Zex, ↓Zey, ↓Zez, ↓Zfa, ↓Zfb, ↓Zfc, ↓Zfd, ↓Zfe, ↓Zff, ↓Zfg, ↓Zfh, ↓Zfi, ↓Zfj, ↓Zfk, ↓Zfl, ↓Zfm, ↓Zfn, ↓Zfo, ↓Zfp, ↓Zfq, ↓Zfr, ↓Zfs, ↓Zft, ↓Zfu, ↓Zfv, ↓Zfw, ↓Zfx, ↓Zfy, ↓Zfz, ↓Zga, ↓Zgb, ↓Zgc, ↓Zgd, ↓Zge, ↓Zgf, ↓Zgg, ↓Zgh, ↓Zgi, ↓Zgj, ↓Zgk, ↓Zgl, ↓Zgm, ↓Zgn, ↓Zgo, ↓Zgp, ↓Zgq, ↓Zgr, ↓Zgs, ↓Zgt, ↓Zgu, ↓Zgv, ↓Zgw, ↓Zgx, ↓Zgy, ↓Zgz, ↓Zha, ↓Zhb, ↓Zhc, ↓Zhd, ↓Zhe, ↓Zhf, ↓Zhg, ↓Zhh, ↓Zhi, ↓Zhj, ↓Zhk, ↓Zhl, ↓Zhm, ↓Zhn, ↓Zho, ↓Zhp, ↓Zhq, ↓Zhr, ↓Zhs, ↓Zht, ↓Zhu, ↓Zhv, ↓Zhw, ↓Zhx, ↓Zhy, ↓Zhz, ↓Zia, ↓Zib, ↓Zic, ↓Zid, ↓Zie, ↓Zif, ↓Zig, ↓Zih, ↓Zii, ↓Zij, ↓Zik, reduceIte, if_true, if_false, Bool.false_eq_true, Bool.and_true, Bool.true_and, Bool.and_false, Bool.false_and, Bool.or_true, Bool.true_or, Bool.or_false, Bool.false_or, Int.cast_ofNat_Int, Zil, Zim, beq_self_eq_true, Int.reduceBEq, Int.reduceLT, Int.reduceLE, Int.reduceEq, Int.reduceNeg, Nat.reduceLT, Zin, Zio, Ziq, Zir, Zis, Zit, Ziu, Ziv, Ziw, Zix, Ziy, Ziz, Zja, Zjb, Zjc, Zjd, Zje, Zjf, Zjg, Zjh, Zji, Zjj, Zjk, Zjl, Zjm, Zjn, Zjo, Zjp, Zjq, Zjr, Zjs, Zjt, Zju, Zjv, Zjw, Zjx, Zjy, Zjz, Zka, Zkb, Zkc, Zkd, Zke, Zkf, Zkg, Zkh, Zki, Zkj, Zkk, Zkl, Zkm, Zkn, Zko, Zkp, List.lookup_nil, Zkq, Zkr, Option.map_some, Option.map_none, Option.bind_some, Option.bind_none, List.map_nil, List.map_cons, List.nil_append, List.cons_append, List.append_nil, List.length_cons, List.length_nil, Nat.reduceAdd, Nat.reduceLeDiff, Nat.reduceEqDiff, Nat.reduceBEq, decide_true, decide_false, Bool.not_true, Bool.not_false, Zks, Zkt, Zku, Zkv, Zkw, Zkx, Zky, Zkz, Zla, Zlb, Zlc, Zld, Zle, Zlf, List.getElem?_cons_zero, List.getElem?_cons_succ, Zlg, Zlh, Zli, Zlj, Zlk, Zll, Zlm, Zln, Zlo, Zlp, Zlq, Zlr, Zls, Zlt, Zlu, Zlv, Zlw, Zlx, Zly, setX, Zlz, Zma, Zmb, Int.ofNat_lt, Int.ofNat_le]
        rw [zp]
        refine for_n (fun i e => ∃ x6 x10, e = [.val (mD h w t), .val (.tup (vec h fun k => rD (b k))), .val (.int h), .val (.lst (tbD h (w + 1 + h) s.t)), .un, .val (.lst (pvD s.pv)), x6, .un, .own false (.l (vec w fun j => rD (svec s w i j))), .un, x10] ∧ Fr1 x6 ∧ Fr1 x10) ?_ ?_ ?_
        · exact ⟨x6, .un, rfl, y6, .un⟩
        · rintro i e hi ⟨z6, z10, rfl, q6, q10⟩
          simp -implicitDefEqProofs -dsimp only [↓Zaa, ↓Zab, ↓Zac, ↓Zad, ↓Zae, ↓Zaf, ↓Zag, ↓Zah, ↓Zai, ↓Zaj, ↓Zak, ↓Zal, ↓Zam, ↓Zan, ↓Zao, ↓Zap, ↓Zaq, ↓Zar, ↓Zas, ↓Zat, ↓Zau, ↓Zav, ↓Zaw, ↓Zax, ↓Zay, ↓Zaz, ↓Zba, ↓Zbb, ↓Zbc, ↓Zbd, ↓Zbe, ↓Zbf, ↓Zbg, ↓Zbh, ↓Zbi, ↓Zbj, ↓Zbk, ↓Zbl, ↓Zbm, ↓Zbn, ↓Zbo, ↓Zbp, ↓Zbq, ↓Zbr, ↓Zbs, ↓Zbt, ↓Zbu, ↓Zbv, ↓Zbw, ↓Zbx, ↓Zby, ↓Zbz, ↓Zca, ↓Zcb, ↓Zcc, ↓Zcd, ↓Zce, ↓Zcf, ↓Zcg, ↓Zch, ↓Zci, ↓Zcj, ↓Zck, ↓Zcl, ↓Zcm, ↓Zcn, ↓Zco, ↓Zcp, ↓Zcq, ↓Zcr, ↓Zcs, ↓Zct, ↓Zcu, ↓Zcv, ↓Zcw, ↓Zcx, ↓Zcy, ↓Zcz, ↓Zda, ↓Zdb, ↓Zdc, ↓Zdd, ↓Zde, ↓Zdf, ↓Zdg, ↓Zdh, ↓Zdi, ↓Zdj, ↓Zdk, ↓Zdl, ↓Zdm, ↓Zdn, ↓Zdo, ↓Zdp, ↓Zdq, ↓Zdr, ↓Zds, ↓Zdt, ↓Zdu, ↓Zdv, ↓Zdw, ↓Zdx, ↓Zdy, ↓Zdz, ↓Zea, ↓Zeb, ↓Zec, ↓Zed, ↓Zee, ↓Zef, ↓Zeg, ↓Zeh, ↓Zei, ↓Zej, ↓Zek, ↓Zel, ↓Zem, ↓Zen, ↓Zeo, ↓Zep, ↓Zeq, ↓Zer, ↓Zes, ↓Zet, ↓Zeu, ↓Zev, ↓Zew, ↓Zex, ↓Zey, ↓Zez, ↓Zfa, ↓Zfb, ↓Zfc, ↓Zfd, ↓Zfe, ↓Zff, ↓Zfg, ↓Zfh, ↓Zfi, ↓Zfj, ↓Zfk, ↓Zfl, ↓Zfm, ↓Zfn, ↓Zfo, ↓Zfp, ↓Zfq, ↓Zfr, ↓Zfs, ↓Zft, ↓Zfu, ↓Zfv, ↓Zfw, ↓Zfx, ↓Zfy, ↓Zfz, ↓Zga, ↓Zgb, ↓Zgc, ↓Zgd, ↓Zge, ↓Zgf, ↓Zgg, ↓Zgh, ↓Zgi, ↓Zgj, ↓Zgk, ↓Zgl, ↓Zgm, ↓Zgn, ↓Zgo, ↓Zgp, ↓Zgq, ↓Zgr, ↓Zgs, ↓Zgt, ↓Zgu, ↓Zgv, ↓Zgw, ↓Zgx, ↓Zgy, ↓Zgz, ↓Zha, ↓Zhb, ↓Zhc, ↓Zhd, ↓Zhe, ↓Zhf, ↓Zhg, ↓Zhh, ↓Zhi, ↓Zhj, ↓Zhk, ↓Zhl, ↓Zhm, ↓Zhn, ↓Zho, ↓Zhp, ↓Zhq, ↓Zhr, ↓Zhs, ↓Zht, ↓Zhu, ↓Zhv, ↓Zhw, ↓Zhx, ↓Zhy, ↓Zhz, ↓Zia, ↓Zib, ↓Zic, ↓Zid, ↓Zie, ↓Zif, ↓Zig, ↓Zih, ↓Zii, ↓Zij, ↓Zik, reduceIte, if_true, if_false, Bool.false_eq_true, Bool.and_true, Bool.true_and, Bool.and_false, Bool.false_and, Bool.or_true, Bool.true_or, Bool.or_false, Bool.false_or, Int.cast_ofNat_Int, Zil, Zim, beq_self_eq_true, Int.reduceBEq, Int.reduceLT, Int.reduceLE, Int.reduceEq, Int.reduceNeg, Nat.reduceLT, Zin, Zio, Ziq, Zir, Zis, Zit, Ziu, Ziv, Ziw, Zix, Ziy, Ziz, Zja, Zjb, Zjc, Zjd, Zje, Zjf, Zjg, Zjh, Zji, Zjj, Zjk, Zjl, Zjm, Zjn, Zjo, Zjp, Zjq, Zjr, Zjs, Zjt, Zju, Zjv, Zjw, Zjx, Zjy, Zjz, Zka, Zkb, Zkc, Zkd, Zke, Zkf, Zkg, Zkh, Zki, Zkj, Zkk, Zkl, Zkm, Zkn, Zko, Zkp, List.lookup_nil, Zkq, Zkr, Option.map_some, Option.map_none, Option.bind_some, Option.bind_none, List.map_nil, List.map_cons, List.nil_append, List.cons_append, List.append_nil, List.length_cons, List.length_nil, Nat.reduceAdd, Nat.reduceLeDiff, Nat.reduceEqDiff, Nat.reduceBEq, decide_true, decide_false, Bool.not_true, Bool.not_false, Zks, Zkt, Zku, Zkv, Zkw, Zkx, Zky, Zkz, Zla, Zlb, Zlc, Zld, Zle, Zlf, List.getElem?_cons_zero, List.getElem?_cons_succ, Zlg, Zlh, Zli, Zlj, Zlk, Zll, Zlm, Zln, Zlo, Zlp, Zlq, Zlr, Zls, Zlt, Zlu, Zlv, Zlw, Zlx, Zly, setX, Zlz, Zma, Zmb, Int.ofNat_lt, Int.ofNat_le, q6, q10, vec_atI hj, vec_len, ixN_nat (hp i hi), vec_set]
          refine ⟨.val (rowD (w + 1 + h) (s.t i)), .val (.int (s.pv.getD i 0 : Nat)), ?_, .val, .val⟩
          rw [vec_ext (n := w) (f := fun j => if j = s.pv.getD i 0 then rD (s.t i w) else rD (svec s w i j)) (g := fun j => rD (svec s w (i + 1) j)) fun j _ => ?_]
          show (if j = s.pv.getD i 0 then _ else _) = rD (if j = s.pv.getD i 0 then _ else _)
          split <;> rfl
        · rintro e ⟨z6, z10, rfl, q6, q10⟩
          simp -implicitDefEqProofs -dsimp only [↓Zaa, ↓Zab, ↓Zac, ↓Zad, ↓Zae, ↓Zaf, ↓Zag, ↓Zah, ↓Zai, ↓Zaj, ↓Zak, ↓Zal, ↓Zam, ↓Zan, ↓Zao, ↓Zap, ↓Zaq, ↓Zar, ↓Zas, ↓Zat, ↓Zau, ↓Zav, ↓Zaw, ↓Zax, ↓Zay, ↓Zaz, ↓Zba, ↓Zbb, ↓Zbc, ↓Zbd, ↓Zbe, ↓Zbf, ↓Zbg, ↓Zbh, ↓Zbi, ↓Zbj, ↓Zbk, ↓Zbl, ↓Zbm, ↓Zbn, ↓Zbo, ↓Zbp, ↓Zbq, ↓Zbr, ↓Zbs, ↓Zbt, ↓Zbu, ↓Zbv, ↓Zbw, ↓Zbx, ↓Zby, ↓Zbz, ↓Zca, ↓Zcb, ↓Zcc, ↓Zcd, ↓Zce, ↓Zcf, ↓Zcg, ↓Zch, ↓Zci, ↓Zcj, ↓Zck, ↓Zcl, ↓Zcm, ↓Zcn, ↓Zco, ↓Zcp, ↓Zcq, ↓Zcr, ↓Zcs, ↓Zct, ↓Zcu, ↓Zcv, ↓Zcw, ↓Zcx, ↓Zcy, ↓Zcz, ↓Zda, ↓Zdb, ↓Zdc, ↓Zdd, ↓Zde, ↓Zdf, ↓Zdg, ↓Zdh, ↓Zdi, ↓Zdj, ↓Zdk, ↓Zdl, ↓Zdm, ↓Zdn, ↓Zdo, ↓Zdp, ↓Zdq, ↓Zdr, ↓Zds, ↓Zdt, ↓Zdu, ↓Zdv, ↓Zdw, ↓Zdx, ↓Zdy, ↓Zdz, ↓Zea, ↓Zeb, ↓Zec, ↓Zed, ↓Zee, ↓Zef, ↓Zeg, ↓Zeh, ↓Zei, ↓Zej, ↓Zek, ↓Zel, ↓Zem, ↓Zen, ↓Zeo, ↓Zep, ↓Zeq, ↓Zer, ↓Zes, ↓Zet, ↓Zeu, ↓Zev, ↓Zew, ↓Zex, ↓Zey, ↓Zez, ↓Zfa, ↓Zfb, ↓Zfc, ↓Zfd, ↓Zfe, ↓Zff, ↓Zfg, ↓Zfh, ↓Zfi, ↓Zfj, ↓Zfk, ↓Zfl, ↓Zfm, ↓Zfn, ↓Zfo, ↓Zfp, ↓Zfq, ↓Zfr, ↓Zfs, ↓Zft, ↓Zfu, ↓Zfv, ↓Zfw, ↓Zfx, ↓Zfy, ↓Zfz, ↓Zga, ↓Zgb, ↓Zgc, ↓Zgd, ↓Zge, ↓Zgf, ↓Zgg, ↓Zgh, ↓Zgi, ↓Zgj, ↓Zgk, ↓Zgl, ↓Zgm, ↓Zgn, ↓Zgo, ↓Zgp, ↓Zgq, ↓Zgr, ↓Zgs, ↓Zgt, ↓Zgu, ↓Zgv, ↓Zgw, ↓Zgx, ↓Zgy, ↓Zgz, ↓Zha, ↓Zhb, ↓Zhc, ↓Zhd, ↓Zhe, ↓Zhf, ↓Zhg, ↓Zhh, ↓Zhi, ↓Zhj, ↓Zhk, ↓Zhl, ↓Zhm, ↓Zhn, ↓Zho, ↓Zhp, ↓Zhq, ↓Zhr, ↓Zhs, ↓Zht, ↓Zhu, ↓Zhv, ↓Zhw, ↓Zhx, ↓Zhy, ↓Zhz, ↓Zia, ↓Zib, ↓Zic, ↓Zid, ↓Zie, ↓Zif, ↓Zig, ↓Zih, ↓Zii, ↓Zij, ↓Zik, reduceIte, if_true, if_false, Bool.false_eq_true, Bool.and_true, Bool.true_and, Bool.and_false, Bool.false_and, Bool.or_true, Bool.true_or, Bool.or_false, Bool.false_or, Int.cast_ofNat_Int, Zil, Zim, beq_self_eq_true, Int.reduceBEq, Int.reduceLT, Int.reduceLE, Int.reduceEq, Int.reduceNeg, Nat.reduceLT, Zin, Zio, Ziq, Zir, Zis, Zit, Ziu, Ziv, Ziw, Zix, Ziy, Ziz, Zja, Zjb, Zjc, Zjd, Zje, Zjf, Zjg, Zjh, Zji, Zjj, Zjk, Zjl, Zjm, Zjn, Zjo, Zjp, Zjq, Zjr, Zjs, Zjt, Zju, Zjv, Zjw, Zjx, Zjy, Zjz, Zka, Zkb, Zkc, Zkd, Zke, Zkf, Zkg, Zkh, Zki, Zkj, Zkk, Zkl, Zkm, Zkn, Zko, Zkp, List.lookup_nil, Zkq, Zkr, Option.map_some, Option.map_none, Option.bind_some, Option.bind_none, List.map_nil, List.map_cons, List.nil_append, List.cons_append, List.append_nil, List.length_cons, List.length_nil, Nat.reduceAdd, Nat.reduceLeDiff, Nat.reduceEqDiff, Nat.reduceBEq, decide_true, decide_false, Bool.not_true, Bool.not_false, Zks, Zkt, Zku, Zkv, Zkw, Zkx, Zky, Zkz, Zla, Zlb, Zlc, Zld, Zle, Zlf, List.getElem?_cons_zero, List.getElem?_cons_succ, Zlg, Zlh, Zli, Zlj, Zlk, Zll, Zlm, Zln, Zlo, Zlp, Zlq, Zlr, Zls, Zlt, Zlu, Zlv, Zlw, Zlx, Zly, setX, Zlz, Zma, Zmb, Int.ofNat_lt, Int.ofNat_le]
end L2.S.W

set_option Elab.async false
set_option linter.all false
set_option maxRecDepth 100000
set_option maxHeartbeats 8000000
namespace L2.S.W
open PySem PySem.Spec PyProof.Rows L2 L2.S
theorem pow_10_18 : pPowI (.int 10) (.int 18) = some (.d (.int 1000000000000000000)) := (pow_ii (show powOk 10 18 = true by decide)).trans (by rw [show (10 : Int) ^ (18 : Int).toNat = 1000000000000000000 from by decide])
theorem s_cell {ns : List Int} {k : Nat} : φ_law_cell [.val (.ro (ns.map D.int)), .val (.int k)] = .ok (.d (.int (ns.getD k 0))) [] := by
  apply run_law_cell
  unfold g_law_cell
  simp -implicitDefEqProofs -dsimp only [↓Zaa, ↓Zab, ↓Zac, ↓Zad, ↓Zae, ↓Zaf, ↓Zag, ↓Zah, ↓Zai, ↓Zaj, ↓Zak, ↓Zal, ↓Zam, ↓Zan, ↓Zao, ↓Zap, ↓Zaq, ↓Zar, ↓Zas, ↓Zat, ↓Zau, ↓Zav, ↓Zaw, ↓Zax, ↓Zay, ↓Zaz, ↓Zba, ↓Zbb, ↓Zbc, ↓Zbd, ↓Zbe, ↓Zbf, ↓Zbg, ↓Zbh, ↓Zbi, ↓Zbj, ↓Zbk, ↓Zbl, ↓Zbm, ↓Zbn, ↓Zbo, ↓Zbp, ↓Zbq, ↓Zbr, ↓Zbs, ↓Zbt, ↓Zbu, ↓Zbv, ↓Zbw, ↓Zbx, ↓Zby, ↓Zbz, ↓Zca, ↓Zcb, ↓Zcc, ↓Zcd, ↓Zce, ↓Zcf, ↓Zcg, ↓Zch, ↓Zci, ↓Zcj, ↓Zck, ↓Zcl, ↓Zcm, ↓Zcn, ↓Zco, ↓Zcp, ↓Zcq, ↓Zcr, ↓Zcs, ↓Zct, ↓Zcu, ↓Zcv, ↓Zcw, ↓Zcx, ↓Zcy, ↓Zcz, ↓Zda, ↓Zdb, ↓Zdc, ↓Zdd, ↓Zde, ↓Zdf, ↓Zdg, ↓Zdh, ↓Zdi, ↓Zdj, ↓Zdk, ↓Zdl, ↓Zdm, ↓Zdn, ↓Zdo, ↓Zdp, ↓Zdq, ↓Zdr, ↓Zds, ↓Zdt, ↓Zdu, ↓Zdv, ↓Zdw, ↓Zdx, ↓Zdy, ↓Zdz, ↓Zea, ↓Zeb, ↓Zec, ↓Zed, ↓Zee, ↓Zef, ↓Zeg, ↓Zeh, ↓Zei, ↓Zej, ↓Zek, ↓Zel, ↓Zem, ↓Zen, ↓Zeo, ↓Zep, ↓Zeq, ↓Zer, ↓Zes, ↓Zet, ↓Zeu, ↓Zev, ↓Zew, ↓Zex, ↓Zey, ↓Zez, ↓Zfa, ↓Zfb, ↓Zfc, ↓Zfd, ↓Zfe, ↓Zff, ↓Zfg, ↓Zfh, ↓Zfi, ↓Zfj, ↓Zfk, ↓Zfl, ↓Zfm, ↓Zfn, ↓Zfo, ↓Zfp, ↓Zfq, ↓Zfr, ↓Zfs, ↓Zft, ↓Zfu, ↓Zfv, ↓Zfw, ↓Zfx, ↓Zfy, ↓Zfz, ↓Zga, ↓Zgb, ↓Zgc, ↓Zgd, ↓Zge, ↓Zgf, ↓Zgg, ↓Zgh, ↓Zgi, ↓Zgj, ↓Zgk, ↓Zgl, ↓Zgm, ↓Zgn, ↓Zgo, ↓Zgp, ↓Zgq, ↓Zgr, ↓Zgs, ↓Zgt, ↓Zgu, ↓Zgv, ↓Zgw, ↓Zgx, ↓Zgy, ↓Zgz, ↓Zha, ↓Zhb, ↓Zhc, ↓Zhd, ↓Zhe, ↓Zhf, ↓Zhg, ↓Zhh, ↓Zhi, ↓Zhj, ↓Zhk, ↓Zhl, ↓Zhm, ↓Zhn, ↓Zho, ↓Zhp, ↓Zhq, ↓Zhr, ↓Zhs, ↓Zht, ↓Zhu, ↓Zhv, ↓Zhw, ↓Zhx, ↓Zhy, ↓Zhz, ↓Zia, ↓Zib, ↓Zic, ↓Zid, ↓Zie, ↓Zif, ↓Zig, ↓Zih, ↓Zii, ↓Zij, ↓Zik, reduceIte, if_true, if_false, Bool.false_eq_true, Bool.and_true, Bool.true_and, Bool.and_false, Bool.false_and, Bool.or_true, Bool.true_or, Bool.or_false, Bool.false_or, Int.cast_ofNat_Int, Zil, Zim, beq_self_eq_true, Int.reduceBEq, Int.reduceLT, Int.reduceLE, Int.reduceEq, Int.reduceNeg, Nat.reduceLT, Zin, Zio, Ziq, Zir, Zis, Zit, Ziu, Ziv, Ziw, Zix, Ziy, Ziz, Zja, Zjb, Zjc, Zjd, Zje, Zjf, Zjg, Zjh, Zji, Zjj, Zjk, Zjl, Zjm, Zjn, Zjo, Zjp, Zjq, Zjr, Zjs, Zjt, Zju, Zjv, Zjw, Zjx, Zjy, Zjz, Zka, Zkb, Zkc, Zkd, Zke, Zkf, Zkg, Zkh, Zki, Zkj, Zkk, Zkl, Zkm, Zkn, Zko, Zkp, List.lookup_nil, Zkq, Zkr, Option.map_some, Option.map_none, Option.bind_some, Option.bind_none, List.map_nil, List.map_cons, List.nil_append, List.cons_append, List.append_nil, List.length_cons, List.length_nil, Nat.reduceAdd, Nat.reduceLeDiff, Nat.reduceEqDiff, Nat.reduceBEq, decide_true, decide_false, Bool.not_true, Bool.not_false, Zks, Zkt, Zku, Zkv, Zkw, Zkx, Zky, Zkz, Zla, Zlb, Zlc, Zld, Zle, Zlf, List.getElem?_cons_zero, List.getElem?_cons_succ, Zlg, Zlh, Zli, Zlj, Zlk, Zll, Zlm, Zln, Zlo, Zlp, Zlq, Zlr, Zls, Zlt, Zlu, Zlv, Zlw, Zlx, Zly, setX, Zlz, Zma, Zmb, Int.ofNat_lt, Int.ofNat_le, List.length_map]
  refine iteK_dec (fun h => ?_) (fun h => ?_)
  · simp -implicitDefEqProofs -dsimp only [↓Zaa, ↓Zab, ↓Zac, ↓Zad, ↓Zae, ↓Zaf, ↓Zag, ↓Zah, ↓Zai, ↓Zaj, ↓Zak, ↓Zal, ↓Zam, ↓Zan, ↓Zao, ↓Zap, ↓Zaq, ↓Zar, ↓Zas, ↓Zat, ↓Zau, ↓Zav, ↓Zaw, ↓Zax, ↓Zay, ↓Zaz, ↓Zba, ↓Zbb, ↓Zbc, ↓Zbd, ↓Zbe, ↓Zbf, ↓Zbg, ↓Zbh, ↓Zbi, ↓Zbj, ↓Zbk, ↓Zbl, ↓Zbm, ↓Zbn, ↓Zbo, ↓Zbp, ↓Zbq, ↓Zbr, ↓Zbs, ↓Zbt, ↓Zbu, ↓Zbv, ↓Zbw, ↓Zbx, ↓Zby, ↓Zbz, ↓Zca, ↓Zcb, ↓Zcc, ↓Zcd, ↓Zce, ↓Zcf, ↓Zcg, ↓Zch, ↓Zci, ↓Zcj, ↓Zck, ↓Zcl, ↓Zcm, ↓Zcn, ↓Zco, ↓Zcp, ↓Zcq, ↓Zcr, ↓Zcs, ↓Zct, ↓Zcu, ↓Zcv, ↓Zcw, ↓Zcx, ↓Zcy, ↓Zcz, ↓Zda, ↓Zdb, ↓Zdc, ↓Zdd, ↓Zde, ↓Zdf, ↓Zdg, ↓Zdh, ↓Zdi, ↓Zdj, ↓Zdk, ↓Zdl, ↓Zdm, ↓Zdn, ↓Zdo, ↓Zdp, ↓Zdq, ↓Zdr, ↓Zds, ↓Zdt, ↓Zdu, ↓Zdv, ↓Zdw, ↓Zdx, ↓Zdy, ↓Zdz, ↓Zea, ↓Zeb, ↓Zec, ↓Zed, ↓Zee, ↓Zef, ↓Zeg, ↓Zeh, ↓Zei, ↓Zej, ↓Zek, ↓Zel, ↓Zem, ↓Zen, ↓Zeo, ↓Zep, ↓Zeq, ↓Zer, ↓Zes, ↓Zet, ↓Zeu, ↓Zev, ↓Zew, ↓Zex, ↓Zey, ↓Zez, ↓Zfa, ↓Zfb, ↓Zfc, ↓Zfd, ↓Zfe, ↓Zff, ↓Zfg, ↓Zfh, ↓Zfi, ↓Zfj, ↓Zfk, ↓Zfl, ↓Zfm, ↓Zfn, ↓Zfo, ↓Zfp, ↓Zfq, ↓Zfr, ↓Zfs, ↓Zft, ↓Zfu, ↓Zfv, ↓Zfw, ↓Zfx, ↓Zfy, ↓Zfz, ↓Zga, ↓Zgb, ↓Zgc, ↓Zgd, ↓Zge, ↓Zgf, ↓Zgg, ↓Zgh, ↓Zgi, ↓Zgj, ↓Zgk, ↓Zgl, ↓Zgm, ↓Zgn, ↓Zgo, ↓Zgp, ↓Zgq, ↓Zgr, ↓Zgs, ↓Zgt, ↓Zgu, ↓Zgv, ↓Zgw, ↓Zgx, ↓Zgy, ↓Zgz, ↓Zha, ↓Zhb, ↓Zhc, ↓Zhd, ↓Zhe, ↓Zhf, ↓Zhg, ↓Zhh, ↓Zhi, ↓Zhj, ↓Zhk, ↓Zhl, ↓Zhm, ↓Zhn, ↓Zho, ↓Zhp, ↓Zhq, ↓Zhr, ↓Zhs, ↓Zht, ↓Zhu, ↓Zhv, ↓Zhw, ↓Zhx, ↓Zhy, ↓Zhz, ↓Zia, ↓Zib, ↓Zic, ↓Zid, ↓Zie, ↓Zif, ↓Zig, ↓Zih, ↓Zii, ↓Zij, ↓Zik, reduceIte, if_true, if_false, Bool.false_eq_true, Bool.and_true, Bool.true_and, Bool.and_false, Bool.false_and, Bool.or_true, Bool.true_or, Bool.or_false, Bool.false_or, Int.cast_ofNat_Int, Zil, Zim, beq_self_eq_true, Int.reduceBEq, Int.reduceLT, Int.reduceLE, Int.reduceEq, Int.reduceNeg, Nat.reduceLT, Zin, Zio, Ziq, Zir, Zis, Zit, Ziu, Ziv, Ziw, Zix, Ziy, Ziz, Zja, Zjb, Zjc, Zjd, Zje, Zjf, Zjg, Zjh, Zji, Zjj, Zjk, Zjl, Zjm, Zjn, Zjo, Zjp, Zjq, Zjr, Zjs, Zjt, Zju, Zjv, Zjw, Zjx, Zjy, Zjz, Zka, Zkb, Zkc, Zkd, Zke, Zkf, Zkg, Zkh, Zki, Zkj, Zkk, Zkl, Zkm, Zkn, Zko, Zkp, List.lookup_nil, Zkq, Zkr, Option.map_some, Option.map_none, Option.bind_some, Option.bind_none, List.map_nil, List.map_cons, List.nil_append, List.cons_append, List.append_nil, List.length_cons, List.length_nil, Nat.reduceAdd, Nat.reduceLeDiff, Nat.reduceEqDiff, Nat.reduceBEq, decide_true, decide_false, Bool.not_true, Bool.not_false, Zks, Zkt, Zku, Zkv, Zkw, Zkx, Zky, Zkz, Zla, Zlb, Zlc, Zld, Zle, Zlf, List.getElem?_cons_zero, List.getElem?_cons_succ, Zlg, Zlh, Zli, Zlj, Zlk, Zll, Zlm, Zln, Zlo, Zlp, Zlq, Zlr, Zls, Zlt, Zlu, Zlv, Zlw, Zlx, Zly, setX, Zlz, Zma, Zmb, Int.ofNat_lt, Int.ofNat_le, List.getElem?_map, List.getElem?_eq_getElem h, List.getD_eq_getElem?_getD, Option.getD_some]
  · simp -implicitDefEqProofs -dsimp only [↓Zaa, ↓Zab, ↓Zac, ↓Zad, ↓Zae, ↓Zaf, ↓Zag, ↓Zah, ↓Zai, ↓Zaj, ↓Zak, ↓Zal, ↓Zam, ↓Zan, ↓Zao, ↓Zap, ↓Zaq, ↓Zar, ↓Zas, ↓Zat, ↓Zau, ↓Zav, ↓Zaw, ↓Zax, ↓Zay, ↓Zaz, ↓Zba, ↓Zbb, ↓Zbc, ↓Zbd, ↓Zbe, ↓Zbf, ↓Zbg, ↓Zbh, ↓Zbi, ↓Zbj, ↓Zbk, ↓Zbl, ↓Zbm, ↓Zbn, ↓Zbo, ↓Zbp, ↓Zbq, ↓Zbr, ↓Zbs, ↓Zbt, ↓Zbu, ↓Zbv, ↓Zbw, ↓Zbx, ↓Zby, ↓Zbz, ↓Zca, ↓Zcb, ↓Zcc, ↓Zcd, ↓Zce, ↓Zcf, ↓Zcg, ↓Zch, ↓Zci, ↓Zcj, ↓Zck, ↓Zcl, ↓Zcm, ↓Zcn, ↓Zco, ↓Zcp, ↓Zcq, ↓Zcr, ↓Zcs, ↓Zct, ↓Zcu, ↓Zcv, ↓Zcw, ↓Zcx, ↓Zcy, ↓Zcz, ↓Zda, ↓Zdb, ↓Zdc, ↓Zdd, ↓Zde, ↓Zdf, ↓Zdg, ↓Zdh, ↓Zdi, ↓Zdj, ↓Zdk, ↓Zdl, ↓Zdm, ↓Zdn, ↓Zdo, ↓Zdp, ↓Zdq, ↓Zdr, ↓Zds, ↓Zdt, ↓Zdu, ↓Zdv, ↓Zdw, ↓Zdx, ↓Zdy, ↓Zdz, ↓Zea, ↓Zeb, ↓Zec, ↓Zed, ↓Zee, ↓Zef, ↓Zeg, ↓Zeh, ↓Zei, ↓Zej, ↓Zek, ↓Zel, ↓Zem, ↓Zen, ↓Zeo, ↓Zep, ↓Zeq, ↓Zer, ↓Zes, ↓Zet, ↓Zeu, ↓Zev, ↓Zew, ↓Zex, ↓Zey, ↓Zez, ↓Zfa, ↓Zfb, ↓Zfc, ↓Zfd, ↓Zfe, ↓Zff, ↓Zfg, ↓Zfh, ↓Zfi, ↓Zfj, ↓Zfk, ↓Zfl, ↓Zfm, ↓Zfn, ↓Zfo, ↓Zfp, ↓Zfq, ↓Zfr, ↓Zfs, ↓Zft, ↓Zfu, ↓Zfv, ↓Zfw, ↓Zfx, ↓Zfy, ↓Zfz, ↓Zga, ↓Zgb, ↓Zgc, ↓Zgd, ↓Zge, ↓Zgf, ↓Zgg, ↓Zgh, ↓Zgi, ↓Zgj, ↓Zgk, ↓Zgl, ↓Zgm, ↓Zgn, ↓Zgo, ↓Zgp, ↓Zgq, ↓Zgr, ↓Zgs, ↓Zgt, ↓Zgu, ↓Zgv, ↓Zgw, ↓Zgx, ↓Zgy, ↓Zgz, ↓Zha, ↓Zhb, ↓Zhc, ↓Zhd, ↓Zhe, ↓Zhf, ↓Zhg, ↓Zhh, ↓Zhi, ↓Zhj, ↓Zhk, ↓Zhl, ↓Zhm, ↓Zhn, ↓Zho, ↓Zhp, ↓Zhq, ↓Zhr, ↓Zhs, ↓Zht, ↓Zhu, ↓Zhv, ↓Zhw, ↓Zhx, ↓Zhy, ↓Zhz, ↓Zia, ↓Zib, ↓Zic, ↓Zid, ↓Zie, ↓Zif, ↓Zig, ↓Zih, ↓Zii, ↓Zij, ↓Zik, reduceIte, if_true, if_false, Bool.false_eq_true, Bool.and_true, Bool.true_and, Bool.and_false, Bool.false_and, Bool.or_true, Bool.true_or, Bool.or_false, Bool.false_or, Int.cast_ofNat_Int, Zil, Zim, beq_self_eq_true, Int.reduceBEq, Int.reduceLT, Int.reduceLE, Int.reduceEq, Int.reduceNeg, Nat.reduceLT, Zin, Zio, Ziq, Zir, Zis, Zit, Ziu, Ziv, Ziw, Zix, Ziy, Ziz, Zja, Zjb, Zjc, Zjd, Zje, Zjf, Zjg, Zjh, Zji, Zjj, Zjk, Zjl, Zjm, Zjn, Zjo, Zjp, Zjq, Zjr, Zjs, Zjt, Zju, Zjv, Zjw, Zjx, Zjy, Zjz, Zka, Zkb, Zkc, Zkd, Zke, Zkf, Zkg, Zkh, Zki, Zkj, Zkk, Zkl, Zkm, Zkn, Zko, Zkp, List.lookup_nil, Zkq, Zkr, Option.map_some, Option.map_none, Option.bind_some, Option.bind_none, List.map_nil, List.map_cons, List.nil_append, List.cons_append, List.append_nil, List.length_cons, List.length_nil, Nat.reduceAdd, Nat.reduceLeDiff, Nat.reduceEqDiff, Nat.reduceBEq, decide_true, decide_false, Bool.not_true, Bool.not_false, Zks, Zkt, Zku, Zkv, Zkw, Zkx, Zky, Zkz, Zla, Zlb, Zlc, Zld, Zle, Zlf, List.getElem?_cons_zero, List.getElem?_cons_succ, Zlg, Zlh, Zli, Zlj, Zlk, Zll, Zlm, Zln, Zlo, Zlp, Zlq, Zlr, Zls, Zlt, Zlu, Zlv, Zlw, Zlx, Zly, setX, Zlz, Zma, Zmb, Int.ofNat_lt, Int.ofNat_le]
    simp [List.getD_eq_getElem?_getD, List.getElem?_eq_none (Nat.le_of_not_lt h)]
theorem s_draws (ns : List Int) (k count : Nat) (bound : Int) (hk : k < 1000) (hc : count < 1000) (hb : 0 < bound) :
    ∃ rs : List Int, φ_law_draws [.val (.ro (ns.map D.int)), .val (.int k), .val (.int count), .val (.int bound)] = .ok (.o (.l (rs.map D.int))) [] ∧ rs.length = count ∧ ∀ r ∈ rs, 0 ≤ r ∧ r < bound := by
  have hb0 : bound ≠ 0 := by omega
  refine runP_law_draws (P := fun z => ∃ rs : List Int, z = .ok (.o (.l (rs.map D.int))) [] ∧ rs.length = count ∧ ∀ r ∈ rs, 0 ≤ r ∧ r < bound) ?_
  unfold g_law_draws
  have hsm := smI_ok (show count ≤ 16777216 by omega)
  simp -implicitDefEqProofs -dsimp only [↓Zaa, ↓Zab, ↓Zac, ↓Zad, ↓Zae, ↓Zaf, ↓Zag, ↓Zah, ↓Zai, ↓Zaj, ↓Zak, ↓Zal, ↓Zam, ↓Zan, ↓Zao, ↓Zap, ↓Zaq, ↓Zar, ↓Zas, ↓Zat, ↓Zau, ↓Zav, ↓Zaw, ↓Zax, ↓Zay, ↓Zaz, ↓Zba, ↓Zbb, ↓Zbc, ↓Zbd, ↓Zbe, ↓Zbf, ↓Zbg, ↓Zbh, ↓Zbi, ↓Zbj, ↓Zbk, ↓Zbl, ↓Zbm, ↓Zbn, ↓Zbo, ↓Zbp, ↓Zbq, ↓Zbr, ↓Zbs, ↓Zbt, ↓Zbu, ↓Zbv, ↓Zbw, ↓Zbx, ↓Zby, ↓Zbz, ↓Zca, ↓Zcb, ↓Zcc, ↓Zcd, ↓Zce, ↓Zcf, ↓Zcg, ↓Zch, ↓Zci, ↓Zcj, ↓Zck, ↓Zcl, ↓Zcm, ↓Zcn, ↓Zco, ↓Zcp, ↓Zcq, ↓Zcr, ↓Zcs, ↓Zct, ↓Zcu, ↓Zcv, ↓Zcw, ↓Zcx, ↓Zcy, ↓Zcz, ↓Zda, ↓Zdb, ↓Zdc, ↓Zdd, ↓Zde, ↓Zdf, ↓Zdg, ↓Zdh, ↓Zdi, ↓Zdj, ↓Zdk, ↓Zdl, ↓Zdm, ↓Zdn, ↓Zdo, ↓Zdp, ↓Zdq, ↓Zdr, ↓Zds, ↓Zdt, ↓Zdu, ↓Zdv, ↓Zdw, ↓Zdx, ↓Zdy, ↓Zdz, ↓Zea, ↓Zeb, ↓Zec, ↓Zed, ↓Zee, ↓Zef, ↓Zeg, ↓Zeh, ↓Zei, ↓Zej, ↓Zek, ↓Zel, ↓Zem, ↓Zen, ↓Zeo, ↓Zep, ↓Zeq, ↓Zer, ↓Zes, ↓Zet, ↓Zeu, ↓Zev, ↓Zew, ↓Zex, ↓Zey, ↓Zez, ↓Zfa, ↓Zfb, ↓Zfc, ↓Zfd, ↓Zfe, ↓Zff, ↓Zfg, ↓Zfh, ↓Zfi, ↓Zfj, ↓Zfk, ↓Zfl, ↓Zfm, ↓Zfn, ↓Zfo, ↓Zfp, ↓Zfq, ↓Zfr, ↓Zfs, ↓Zft, ↓Zfu, ↓Zfv, ↓Zfw, ↓Zfx, ↓Zfy, ↓Zfz, ↓Zga, ↓Zgb, ↓Zgc, ↓Zgd, ↓Zge, ↓Zgf, ↓Zgg, ↓Zgh, ↓Zgi, ↓Zgj, ↓Zgk, ↓Zgl, ↓Zgm, ↓Zgn, ↓Zgo, ↓Zgp, ↓Zgq, ↓Zgr, ↓Zgs, ↓Zgt, ↓Zgu, ↓Zgv, ↓Zgw, ↓Zgx, ↓Zgy, ↓Zgz, ↓Zha, ↓Zhb, ↓Zhc, ↓Zhd, ↓Zhe, ↓Zhf, ↓Zhg, ↓Zhh, ↓Zhi, ↓Zhj, ↓Zhk, ↓Zhl, ↓Zhm, ↓Zhn, ↓Zho, ↓Zhp, ↓Zhq, ↓Zhr, ↓Zhs, ↓Zht, ↓Zhu, ↓Zhv, ↓Zhw, ↓Zhx, ↓Zhy, ↓Zhz, ↓Zia, ↓Zib, ↓Zic, ↓Zid, ↓Zie, ↓Zif, ↓Zig, ↓Zih, ↓Zii, ↓Zij, ↓Zik, reduceIte, if_true, if_false, Bool.false_eq_true, Bool.and_true, Bool.true_and, Bool.and_false, Bool.false_and, Bool.or_true, Bool.true_or, Bool.or_false, Bool.false_or, Int.cast_ofNat_Int, Zil, Zim, beq_self_eq_true, Int.reduceBEq, Int.reduceLT, Int.reduceLE, Int.reduceEq, Int.reduceNeg, Nat.reduceLT, Zin, Zio, Ziq, Zir, Zis, Zit, Ziu, Ziv, Ziw, Zix, Ziy, Ziz, Zja, Zjb, Zjc, Zjd, Zje, Zjf, Zjg, Zjh, Zji, Zjj, Zjk, Zjl, Zjm, Zjn, Zjo, Zjp, Zjq, Zjr, Zjs, Zjt, Zju, Zjv, Zjw, Zjx, Zjy, Zjz, Zka, Zkb, Zkc, Zkd, Zke, Zkf, Zkg, Zkh, Zki, Zkj, Zkk, Zkl, Zkm, Zkn, Zko, Zkp, List.lookup_nil, Zkq, Zkr, Option.map_some, Option.map_none, Option.bind_some, Option.bind_none, List.map_nil, List.map_cons, List.nil_append, List.cons_append, List.append_nil, List.length_cons, List.length_nil, Nat.reduceAdd, Nat.reduceLeDiff, Nat.reduceEqDiff, Nat.reduceBEq, decide_true, decide_false, Bool.not_true, Bool.not_false, Zks, Zkt, Zku, Zkv, Zkw, Zkx, Zky, Zkz, Zla, Zlb, Zlc, Zld, Zle, Zlf, List.getElem?_cons_zero, List.getElem?_cons_succ, Zlg, Zlh, Zli, Zlj, Zlk, Zll, Zlm, Zln, Zlo, Zlp, Zlq, Zlr, Zls, Zlt, Zlu, Zlv, Zlw, Zlx, Zly, setX, Zlz, Zma, Zmb, Int.ofNat_lt, Int.ofNat_le, s_cell, pow_10_18]
  generalize ns.getD k 0 = cell
  refine iteK_dec (fun h => ?_) (fun h => ?_)
  · simp -implicitDefEqProofs -dsimp only [↓Zaa, ↓Zab, ↓Zac, ↓Zad, ↓Zae, ↓Zaf, ↓Zag, ↓Zah, ↓Zai, ↓Zaj, ↓Zak, ↓Zal, ↓Zam, ↓Zan, ↓Zao, ↓Zap, ↓Zaq, ↓Zar, ↓Zas, ↓Zat, ↓Zau, ↓Zav, ↓Zaw, ↓Zax, ↓Zay, ↓Zaz, ↓Zba, ↓Zbb, ↓Zbc, ↓Zbd, ↓Zbe, ↓Zbf, ↓Zbg, ↓Zbh, ↓Zbi, ↓Zbj, ↓Zbk, ↓Zbl, ↓Zbm, ↓Zbn, ↓Zbo, ↓Zbp, ↓Zbq, ↓Zbr, ↓Zbs, ↓Zbt, ↓Zbu, ↓Zbv, ↓Zbw, ↓Zbx, ↓Zby, ↓Zbz, ↓Zca, ↓Zcb, ↓Zcc, ↓Zcd, ↓Zce, ↓Zcf, ↓Zcg, ↓Zch, ↓Zci, ↓Zcj, ↓Zck, ↓Zcl, ↓Zcm, ↓Zcn, ↓Zco, ↓Zcp, ↓Zcq, ↓Zcr, ↓Zcs, ↓Zct, ↓Zcu, ↓Zcv, ↓Zcw, ↓Zcx, ↓Zcy, ↓Zcz, ↓Zda, ↓Zdb, ↓Zdc, ↓Zdd, ↓Zde, ↓Zdf, ↓Zdg, ↓Zdh, ↓Zdi, ↓Zdj, ↓Zdk, ↓Zdl, ↓Zdm, ↓Zdn, ↓Zdo, ↓Zdp, ↓Zdq, ↓Zdr, ↓Zds, ↓Zdt, ↓Zdu, ↓Zdv, ↓Zdw, ↓Zdx, ↓Zdy, ↓Zdz, ↓Zea, ↓Zeb, ↓Zec, ↓Zed, ↓Zee, ↓Zef, ↓Zeg, ↓Zeh, ↓Zei, ↓Zej, ↓Zek, ↓Zel, ↓Zem, ↓Zen, ↓Zeo, ↓Zep, ↓Zeq, ↓Zer, ↓Zes, ↓Zet, ↓Zeu, ↓Zev, ↓Zew, ↓Zex, ↓Zey, ↓Zez, ↓Zfa, ↓Zfb, ↓Zfc, ↓Zfd, ↓Zfe, ↓Zff, ↓Zfg, ↓Zfh, ↓Zfi, ↓Zfj, ↓Zfk, ↓Zfl, ↓Zfm, ↓Zfn, ↓Zfo, ↓Zfp, ↓Zfq, ↓Zfr, ↓Zfs, ↓Zft, ↓Zfu, ↓Zfv, ↓Zfw, ↓Zfx, ↓Zfy, ↓Zfz, ↓Zga, ↓Zgb, ↓Zgc, ↓Zgd, ↓Zge, ↓Zgf, ↓Zgg, ↓Zgh, ↓Zgi, ↓Zgj, ↓Zgk, ↓Zgl, ↓Zgm, ↓Zgn, ↓Zgo, ↓Zgp, ↓Zgq, ↓Zgr, ↓Zgs, ↓Zgt, ↓Zgu, ↓Zgv, ↓Zgw, ↓Zgx, ↓Zgy, ↓Zgz, ↓Zha, ↓Zhb, ↓Zhc, ↓Zhd, ↓Zhe, ↓Zhf, ↓Zhg, ↓Zhh, ↓Zhi, ↓Zhj, ↓Zhk, ↓Zhl, ↓Zhm, ↓Zhn, ↓Zho, ↓Zhp, ↓Zhq, ↓Zhr, ↓Zhs, ↓Zht, ↓Zhu, ↓Zhv, ↓Zhw, ↓Zhx, ↓Zhy, ↓Zhz, ↓Zia, ↓Zib, ↓Zic, ↓Zid, ↓Zie, ↓Zif, ↓Zig, ↓Zih, ↓Zii, ↓Zij, ↓Zik, reduceIte, if_true, if_false, Bool.false_eq_true, Bool.and_true, Bool.true_and, Bool.and_false, Bool.false_and, Bool.or_true, Bool.true_or, Bool.or_false, Bool.false_or, Int.cast_ofNat_Int, Zil, Zim, beq_self_eq_true, Int.reduceBEq, Int.reduceLT, Int.reduceLE, Int.reduceEq, Int.reduceNeg, Nat.reduceLT, Zin, Zio, Ziq, Zir, Zis, Zit, Ziu, Ziv, Ziw, Zix, Ziy, Ziz, Zja, Zjb, Zjc, Zjd, Zje, Zjf, Zjg, Zjh, Zji, Zjj, Zjk, Zjl, Zjm, Zjn, Zjo, Zjp, Zjq, Zjr, Zjs, Zjt, Zju, Zjv, Zjw, Zjx, Zjy, Zjz, Zka, Zkb, Zkc, Zkd, Zke, Zkf, Zkg, Zkh, Zki, Zkj, Zkk, Zkl, Zkm, Zkn, Zko, Zkp, List.lookup_nil, Zkq, Zkr, Option.map_some, Option.map_none, Option.bind_some, Option.bind_none, List.map_nil, List.map_cons, List.nil_append, List.cons_append, List.append_nil, List.length_cons, List.length_nil, Nat.reduceAdd, Nat.reduceLeDiff, Nat.reduceEqDiff, Nat.reduceBEq, decide_true, decide_false, Bool.not_true, Bool.not_false, Zks, Zkt, Zku, Zkv, Zkw, Zkx, Zky, Zkz, Zla, Zlb, Zlc, Zld, Zle, Zlf, List.getElem?_cons_zero, List.getElem?_cons_succ, Zlg, Zlh, Zli, Zlj, Zlk, Zll, Zlm, Zln, Zlo, Zlp, Zlq, Zlr, Zls, Zlt, Zlu, Zlv, Zlw, Zlx, Zly, setX, Zlz, Zma, Zmb, Int.ofNat_lt, Int.ofNat_le, hsm]
    refine for_r0 (fun i e => ∃ (c : Int) (rs : List Int) (x : SV), e = [.val (.ro (ns.map D.int)), .val (.int k), .val (.int count), .val (.int bound), .val (.int c), .own false (.l (rs.map D.int)), x, .un, .un] ∧ Fr1 x ∧ rs.length = i ∧ ∀ r ∈ rs, 0 ≤ r ∧ r < bound) ?_ ?_ ?_
    · exact ⟨cell, [], .un, rfl, .un, rfl, by simp⟩
    · rintro i e hi ⟨c, rs, x, rfl, hx, hl, hr⟩
      have q : rs.length < 16777216 := by omega
      simp -implicitDefEqProofs -dsimp only [↓Zaa, ↓Zab, ↓Zac, ↓Zad, ↓Zae, ↓Zaf, ↓Zag, ↓Zah, ↓Zai, ↓Zaj, ↓Zak, ↓Zal, ↓Zam, ↓Zan, ↓Zao, ↓Zap, ↓Zaq, ↓Zar, ↓Zas, ↓Zat, ↓Zau, ↓Zav, ↓Zaw, ↓Zax, ↓Zay, ↓Zaz, ↓Zba, ↓Zbb, ↓Zbc, ↓Zbd, ↓Zbe, ↓Zbf, ↓Zbg, ↓Zbh, ↓Zbi, ↓Zbj, ↓Zbk, ↓Zbl, ↓Zbm, ↓Zbn, ↓Zbo, ↓Zbp, ↓Zbq, ↓Zbr, ↓Zbs, ↓Zbt, ↓Zbu, ↓Zbv, ↓Zbw, ↓Zbx, ↓Zby, ↓Zbz, ↓Zca, ↓Zcb, ↓Zcc, ↓Zcd, ↓Zce, ↓Zcf, ↓Zcg, ↓Zch, ↓Zci, ↓Zcj, ↓Zck, ↓Zcl, ↓Zcm, ↓Zcn, ↓Zco, ↓Zcp, ↓Zcq, ↓Zcr, ↓Zcs, ↓Zct, ↓Zcu, ↓Zcv, ↓Zcw, ↓Zcx, ↓Zcy, ↓Zcz, ↓Zda, ↓Zdb, ↓Zdc, ↓Zdd, ↓Zde, ↓Zdf, ↓Zdg, ↓Zdh, ↓Zdi, ↓Zdj, ↓Zdk, ↓Zdl, ↓Zdm, ↓Zdn, ↓Zdo, ↓Zdp, ↓Zdq, ↓Zdr, ↓Zds, ↓Zdt, ↓Zdu, ↓Zdv, ↓Zdw, ↓Zdx, ↓Zdy, ↓Zdz, ↓Zea, ↓Zeb, ↓Zec, ↓Zed, ↓Zee, ↓Zef, ↓Zeg, ↓Zeh, ↓Zei, ↓Zej, ↓Zek, ↓Zel, ↓Zem, ↓Zen, ↓Zeo, ↓Zep, ↓Zeq, ↓Zer, ↓Zes, ↓Zet, ↓Zeu, ↓Zev, ↓Zew, ↓Zex, ↓Zey, ↓Zez, ↓Zfa, ↓Zfb, ↓Zfc, ↓Zfd, ↓Zfe, ↓Zff, ↓Zfg, ↓Zfh, ↓Zfi, ↓Zfj, ↓Zfk, ↓Zfl, ↓Zfm, ↓Zfn, ↓Zfo, ↓Zfp, ↓Zfq, ↓Zfr, ↓Zfs, ↓Zft, ↓Zfu, ↓Zfv, ↓Zfw, ↓Zfx, ↓Zfy, ↓Zfz, ↓Zga, ↓Zgb, ↓Zgc, ↓Zgd, ↓Zge, ↓Zgf, ↓Zgg, ↓Zgh, ↓Zgi, ↓Zgj, ↓Zgk, ↓Zgl, ↓Zgm, ↓Zgn, ↓Zgo, ↓Zgp, ↓Zgq, ↓Zgr, ↓Zgs, ↓Zgt, ↓Zgu, ↓Zgv, ↓Zgw, ↓Zgx, ↓Zgy, ↓Zgz, ↓Zha, ↓Zhb, ↓Zhc, ↓Zhd, ↓Zhe, ↓Zhf, ↓Zhg, ↓Zhh, ↓Zhi, ↓Zhj, ↓Zhk, ↓Zhl, ↓Zhm, ↓Zhn, ↓Zho, ↓Zhp, ↓Zhq, ↓Zhr, ↓Zhs, ↓Zht, ↓Zhu, ↓Zhv, ↓Zhw, ↓Zhx, ↓Zhy, ↓Zhz, ↓Zia, ↓Zib, ↓Zic, ↓Zid, ↓Zie, ↓Zif, ↓Zig, ↓Zih, ↓Zii, ↓Zij, ↓Zik, reduceIte, if_true, if_false, Bool.false_eq_true, Bool.and_true, Bool.true_and, Bool.and_false, Bool.false_and, Bool.or_true, Bool.true_or, Bool.or_false, Bool.false_or, Int.cast_ofNat_Int, Zil, Zim, beq_self_eq_true, Int.reduceBEq, Int.reduceLT, Int.reduceLE, Int.reduceEq, Int.reduceNeg, Nat.reduceLT, Zin, Zio, Ziq, Zir, Zis, Zit, Ziu, Ziv, Ziw, Zix, Ziy, Ziz, Zja, Zjb, Zjc, Zjd, Zje, Zjf, Zjg, Zjh, Zji, Zjj, Zjk, Zjl, Zjm, Zjn, Zjo, Zjp, Zjq, Zjr, Zjs, Zjt, Zju, Zjv, Zjw, Zjx, Zjy, Zjz, Zka, Zkb, Zkc, Zkd, Zke, Zkf, Zkg, Zkh, Zki, Zkj, Zkk, Zkl, Zkm, Zkn, Zko, Zkp, List.lookup_nil, Zkq, Zkr, Option.map_some, Option.map_none, Option.bind_some, Option.bind_none, List.map_nil, List.map_cons, List.nil_append, List.cons_append, List.append_nil, List.length_cons, List.length_nil, Nat.reduceAdd, Nat.reduceLeDiff, Nat.reduceEqDiff, Nat.reduceBEq, decide_true, decide_false, Bool.not_true, Bool.not_false, Zks, Zkt, Zku, Zkv, Zkw, Zkx, Zky, Zkz, Zla, Zlb, Zlc, Zld, Zle, Zlf, List.getElem?_cons_zero, List.getElem?_cons_succ, Zlg, Zlh, Zli, Zlj, Zlk, Zll, Zlm, Zln, Zlo, Zlp, Zlq, Zlr, Zls, Zlt, Zlu, Zlv, Zlw, Zlx, Zly, setX, Zlz, Zma, Zmb, Int.ofNat_lt, Int.ofNat_le, hx, mod_ii hb, div_ii hb0, List.length_map, q]
      refine ⟨c.fdiv bound, rs ++ [c % bound], .val (.int i), by simp, .val, by simp [hl], fun r h => ?_⟩
      rcases List.mem_append.mp h with h | h
      · exact hr r h
      · simp at h
        subst h
        exact ⟨Int.emod_nonneg _ hb0, Int.emod_lt_of_pos _ hb⟩
    · rintro e ⟨c, rs, x, rfl, hx, hl, hr⟩
      simp -implicitDefEqProofs -dsimp only [↓Zaa, ↓Zab, ↓Zac, ↓Zad, ↓Zae, ↓Zaf, ↓Zag, ↓Zah, ↓Zai, ↓Zaj, ↓Zak, ↓Zal, ↓Zam, ↓Zan, ↓Zao, ↓Zap, ↓Zaq, ↓Zar, ↓Zas, ↓Zat, ↓Zau, ↓Zav, ↓Zaw, ↓Zax, ↓Zay, ↓Zaz, ↓Zba, ↓Zbb, ↓Zbc, ↓Zbd, ↓Zbe, ↓Zbf, ↓Zbg, ↓Zbh, ↓Zbi, ↓Zbj, ↓Zbk, ↓Zbl, ↓Zbm, ↓Zbn, ↓Zbo, ↓Zbp, ↓Zbq, ↓Zbr, ↓Zbs, ↓Zbt, ↓Zbu, ↓Zbv, ↓Zbw, ↓Zbx, ↓Zby, ↓Zbz, ↓Zca, ↓Zcb, ↓Zcc, ↓Zcd, ↓Zce, ↓Zcf, ↓Zcg, ↓Zch, ↓Zci, ↓Zcj, ↓Zck, ↓Zcl, ↓Zcm, ↓Zcn, ↓Zco, ↓Zcp, ↓Zcq, ↓Zcr, ↓Zcs, ↓Zct, ↓Zcu, ↓Zcv, ↓Zcw, ↓Zcx, ↓Zcy, ↓Zcz, ↓Zda, ↓Zdb, ↓Zdc, ↓Zdd, ↓Zde, ↓Zdf, ↓Zdg, ↓Zdh, ↓Zdi, ↓Zdj, ↓Zdk, ↓Zdl, ↓Zdm, ↓Zdn, ↓Zdo, ↓Zdp, ↓Zdq, ↓Zdr, ↓Zds, ↓Zdt, ↓Zdu, ↓Zdv, ↓Zdw, ↓Zdx, ↓Zdy, ↓Zdz, ↓Zea, ↓Zeb, ↓Zec, ↓Zed, ↓Zee, ↓Zef, ↓Zeg, ↓Zeh, ↓Zei, ↓Zej, ↓Zek, ↓Zel, ↓Zem, ↓Zen, ↓Zeo, ↓Zep, ↓Zeq, ↓Zer, ↓Zes, ↓Zet, ↓Zeu, ↓Zev, ↓Zew, ↓Zex, ↓Zey, ↓Zez, ↓Zfa, ↓Zfb, ↓Zfc, ↓Zfd, ↓Zfe, ↓Zff, ↓Zfg, ↓Zfh, ↓Zfi, ↓Zfj, ↓Zfk, ↓Zfl, ↓Zfm, ↓Zfn, ↓Zfo, ↓Zfp, ↓Zfq, ↓Zfr, ↓Zfs, ↓Zft, ↓Zfu, ↓Zfv, ↓Zfw, ↓Zfx, ↓Zfy, ↓Zfz, ↓Zga, ↓Zgb, ↓Zgc, ↓Zgd, ↓Zge, ↓Zgf, ↓Zgg, ↓Zgh, ↓Zgi, ↓Zgj, ↓Zgk, ↓Zgl, ↓Zgm, ↓Zgn, ↓Zgo, ↓Zgp, ↓Zgq, ↓Zgr, ↓Zgs, ↓Zgt, ↓Zgu, ↓Zgv, ↓Zgw, ↓Zgx, ↓Zgy, ↓Zgz, ↓Zha, ↓Zhb, ↓Zhc, ↓Zhd, ↓Zhe, ↓Zhf, ↓Zhg, ↓Zhh, ↓Zhi, ↓Zhj, ↓Zhk, ↓Zhl, ↓Zhm, ↓Zhn, ↓Zho, ↓Zhp, ↓Zhq, ↓Zhr, ↓Zhs, ↓Zht, ↓Zhu, ↓Zhv, ↓Zhw, ↓Zhx, ↓Zhy, ↓Zhz, ↓Zia, ↓Zib, ↓Zic, ↓Zid, ↓Zie, ↓Zif, ↓Zig, ↓Zih, ↓Zii, ↓Zij, ↓Zik, reduceIte, if_true, if_false, Bool.false_eq_true, Bool.and_true, Bool.true_and, Bool.and_false, Bool.false_and, Bool.or_true, Bool.true_or, Bool.or_false, Bool.false_or, Int.cast_ofNat_Int, Zil, Zim, beq_self_eq_true, Int.reduceBEq, Int.reduceLT, Int.reduceLE, Int.reduceEq, Int.reduceNeg, Nat.reduceLT, Zin, Zio, Ziq, Zir, Zis, Zit, Ziu, Ziv, Ziw, Zix, Ziy, Ziz, Zja, Zjb, Zjc, Zjd, Zje, Zjf, Zjg, Zjh, Zji, Zjj, Zjk, Zjl, Zjm, Zjn, Zjo, Zjp, Zjq, Zjr, Zjs, Zjt, Zju, Zjv, Zjw, Zjx, Zjy, Zjz, Zka, Zkb, Zkc, Zkd, Zke, Zkf, Zkg, Zkh, Zki, Zkj, Zkk, Zkl, Zkm, Zkn, Zko, Zkp, List.lookup_nil, Zkq, Zkr, Option.map_some, Option.map_none, Option.bind_some, Option.bind_none, List.map_nil, List.map_cons, List.nil_append, List.cons_append, List.append_nil, List.length_cons, List.length_nil, Nat.reduceAdd, Nat.reduceLeDiff, Nat.reduceEqDiff, Nat.reduceBEq, decide_true, decide_false, Bool.not_true, Bool.not_false, Zks, Zkt, Zku, Zkv, Zkw, Zkx, Zky, Zkz, Zla, Zlb, Zlc, Zld, Zle, Zlf, List.getElem?_cons_zero, List.getElem?_cons_succ, Zlg, Zlh, Zli, Zlj, Zlk, Zll, Zlm, Zln, Zlo, Zlp, Zlq, Zlr, Zls, Zlt, Zlu, Zlv, Zlw, Zlx, Zly, setX, Zlz, Zma, Zmb, Int.ofNat_lt, Int.ofNat_le]
      exact ⟨rs, rfl, hl, hr⟩
  · have lt31 : ∀ {x : Int}, 0 ≤ x → x < 8589934592 → x.natAbs < 2 ^ 40 := fun h1 h2 => by omega
    simp -implicitDefEqProofs -dsimp only [↓Zaa, ↓Zab, ↓Zac, ↓Zad, ↓Zae, ↓Zaf, ↓Zag, ↓Zah, ↓Zai, ↓Zaj, ↓Zak, ↓Zal, ↓Zam, ↓Zan, ↓Zao, ↓Zap, ↓Zaq, ↓Zar, ↓Zas, ↓Zat, ↓Zau, ↓Zav, ↓Zaw, ↓Zax, ↓Zay, ↓Zaz, ↓Zba, ↓Zbb, ↓Zbc, ↓Zbd, ↓Zbe, ↓Zbf, ↓Zbg, ↓Zbh, ↓Zbi, ↓Zbj, ↓Zbk, ↓Zbl, ↓Zbm, ↓Zbn, ↓Zbo, ↓Zbp, ↓Zbq, ↓Zbr, ↓Zbs, ↓Zbt, ↓Zbu, ↓Zbv, ↓Zbw, ↓Zbx, ↓Zby, ↓Zbz, ↓Zca, ↓Zcb, ↓Zcc, ↓Zcd, ↓Zce, ↓Zcf, ↓Zcg, ↓Zch, ↓Zci, ↓Zcj, ↓Zck, ↓Zcl, ↓Zcm, ↓Zcn, ↓Zco, ↓Zcp, ↓Zcq, ↓Zcr, ↓Zcs, ↓Zct, ↓Zcu, ↓Zcv, ↓Zcw, ↓Zcx, ↓Zcy, ↓Zcz, ↓Zda, ↓Zdb, ↓Zdc, ↓Zdd, ↓Zde, ↓Zdf, ↓Zdg, ↓Zdh, ↓Zdi, ↓Zdj, ↓Zdk, ↓Zdl, ↓Zdm, ↓Zdn, ↓Zdo, ↓Zdp, ↓Zdq, ↓Zdr, ↓Zds, ↓Zdt, ↓Zdu, ↓Zdv, ↓Zdw, ↓Zdx, ↓Zdy, ↓Zdz, ↓Zea, ↓Zeb, ↓Zec, ↓Zed, ↓Zee, ↓Zef, ↓Zeg, ↓Zeh, ↓Zei, ↓Zej, ↓Zek, ↓Zel, ↓Zem, ↓Zen, ↓Zeo, ↓Zep, ↓Zeq, ↓Zer, ↓Zes, ↓Zet, ↓Zeu, ↓Zev, ↓Zew, ↓Zex, ↓Zey, ↓Zez, ↓Zfa, ↓Zfb, ↓Zfc, ↓Zfd, ↓Zfe, ↓Zff, ↓Zfg, ↓Zfh, ↓Zfi, ↓Zfj, ↓Zfk, ↓Zfl, ↓Zfm, ↓Zfn, ↓Zfo, ↓Zfp, ↓Zfq, ↓Zfr, ↓Zfs, ↓Zft, ↓Zfu, ↓Zfv, ↓Zfw, ↓Zfx, ↓Zfy, ↓Zfz, ↓Zga, ↓Zgb, ↓Zgc, ↓Zgd, ↓Zge, ↓Zgf, ↓Zgg, ↓Zgh, ↓Zgi, ↓Zgj, ↓Zgk, ↓Zgl, ↓Zgm, ↓Zgn, ↓Zgo, ↓Zgp, ↓Zgq, ↓Zgr, ↓Zgs, ↓Zgt, ↓Zgu, ↓Zgv, ↓Zgw, ↓Zgx, ↓Zgy, ↓Zgz, ↓Zha, ↓Zhb, ↓Zhc, ↓Zhd, ↓Zhe, ↓Zhf, ↓Zhg, ↓Zhh, ↓Zhi, ↓Zhj, ↓Zhk, ↓Zhl, ↓Zhm, ↓Zhn, ↓Zho, ↓Zhp, ↓Zhq, ↓Zhr, ↓Zhs, ↓Zht, ↓Zhu, ↓Zhv, ↓Zhw, ↓Zhx, ↓Zhy, ↓Zhz, ↓Zia, ↓Zib, ↓Zic, ↓Zid, ↓Zie, ↓Zif, ↓Zig, ↓Zih, ↓Zii, ↓Zij, ↓Zik, reduceIte, if_true, if_false, Bool.false_eq_true, Bool.and_true, Bool.true_and, Bool.and_false, Bool.false_and, Bool.or_true, Bool.true_or, Bool.or_false, Bool.false_or, Int.cast_ofNat_Int, Zil, Zim, beq_self_eq_true, Int.reduceBEq, Int.reduceLT, Int.reduceLE, Int.reduceEq, Int.reduceNeg, Nat.reduceLT, Zin, Zio, Ziq, Zir, Zis, Zit, Ziu, Ziv, Ziw, Zix, Ziy, Ziz, Zja, Zjb, Zjc, Zjd, Zje, Zjf, Zjg, Zjh, Zji, Zjj, Zjk, Zjl, Zjm, Zjn, Zjo, Zjp, Zjq, Zjr, Zjs, Zjt, Zju, Zjv, Zjw, Zjx, Zjy, Zjz, Zka, Zkb, Zkc, Zkd, Zke, Zkf, Zkg, Zkh, Zki, Zkj, Zkk, Zkl, Zkm, Zkn, Zko, Zkp, List.lookup_nil, Zkq, Zkr, Option.map_some, Option.map_none, Option.bind_some, Option.bind_none, List.map_nil, List.map_cons, List.nil_append, List.cons_append, List.append_nil, List.length_cons, List.length_nil, Nat.reduceAdd, Nat.reduceLeDiff, Nat.reduceEqDiff, Nat.reduceBEq, decide_true, decide_false, Bool.not_true, Bool.not_false, Zks, Zkt, Zku, Zkv, Zkw, Zkx, Zky, Zkz, Zla, Zlb, Zlc, Zld, Zle, Zlf, List.getElem?_cons_zero, List.getElem?_cons_succ, Zlg, Zlh, Zli, Zlj, Zlk, Zll, Zlm, Zln, Zlo, Zlp, Zlq, Zlr, Zls, Zlt, Zlu, Zlv, Zlw, Zlx, Zly, setX, Zlz, Zma, Zmb, Int.ofNat_lt, Int.ofNat_le, mod_ii (show (0 : Int) < 2147483647 by decide), mul_ii (mulOk_lt (i := 3) (j := (k : Int)) (a := 40) (b := 40) (by decide) (by omega) (by decide) (by decide) (by decide)), hsm]
    have n0 : 0 ≤ cell % 2147483647 := Int.emod_nonneg _ (by decide)
    have n1 : cell % 2147483647 < 2147483647 := Int.emod_lt_of_pos _ (by decide)
    refine for_r0 (fun i e => ∃ (m : Int) (rs : List Int) (x y : SV), e = [.val (.ro (ns.map D.int)), .val (.int k), .val (.int count), .val (.int bound), .val (.int cell), .own false (.l (rs.map D.int)), x, .val (.int m), y] ∧ Fr1 x ∧ Fr1 y ∧ 0 ≤ m ∧ m < 8589934592 ∧ rs.length = i ∧ ∀ r ∈ rs, 0 ≤ r ∧ r < bound) ?_ ?_ ?_
    · exact ⟨_, [], .un, .un, rfl, .un, .un, by omega, by omega, rfl, by simp⟩
    · rintro i e hi ⟨m, rs, x, y, rfl, hx, hy, m0, m1, hl, hr⟩
      have q : rs.length < 16777216 := by omega
      simp -implicitDefEqProofs -dsimp only [↓Zaa, ↓Zab, ↓Zac, ↓Zad, ↓Zae, ↓Zaf, ↓Zag, ↓Zah, ↓Zai, ↓Zaj, ↓Zak, ↓Zal, ↓Zam, ↓Zan, ↓Zao, ↓Zap, ↓Zaq, ↓Zar, ↓Zas, ↓Zat, ↓Zau, ↓Zav, ↓Zaw, ↓Zax, ↓Zay, ↓Zaz, ↓Zba, ↓Zbb, ↓Zbc, ↓Zbd, ↓Zbe, ↓Zbf, ↓Zbg, ↓Zbh, ↓Zbi, ↓Zbj, ↓Zbk, ↓Zbl, ↓Zbm, ↓Zbn, ↓Zbo, ↓Zbp, ↓Zbq, ↓Zbr, ↓Zbs, ↓Zbt, ↓Zbu, ↓Zbv, ↓Zbw, ↓Zbx, ↓Zby, ↓Zbz, ↓Zca, ↓Zcb, ↓Zcc, ↓Zcd, ↓Zce, ↓Zcf, ↓Zcg, ↓Zch, ↓Zci, ↓Zcj, ↓Zck, ↓Zcl, ↓Zcm, ↓Zcn, ↓Zco, ↓Zcp, ↓Zcq, ↓Zcr, ↓Zcs, ↓Zct, ↓Zcu, ↓Zcv, ↓Zcw, ↓Zcx, ↓Zcy, ↓Zcz, ↓Zda, ↓Zdb, ↓Zdc, ↓Zdd, ↓Zde, ↓Zdf, ↓Zdg, ↓Zdh, ↓Zdi, ↓Zdj, ↓Zdk, ↓Zdl, ↓Zdm, ↓Zdn, ↓Zdo, ↓Zdp, ↓Zdq, ↓Zdr, ↓Zds, ↓Zdt, ↓Zdu, ↓Zdv, ↓Zdw, ↓Zdx, ↓Zdy, ↓Zdz, ↓Zea, ↓Zeb, ↓Zec, ↓Zed, ↓Zee, ↓Zef, ↓Zeg, ↓Zeh, ↓Zei, ↓Zej, ↓Zek, ↓Zel, ↓Zem, ↓Zen, ↓Zeo, ↓Zep, ↓Zeq, ↓Zer, ↓Zes, ↓Zet, ↓Zeu, ↓Zev, ↓Zew, ↓Zex, ↓Zey, ↓Zez, ↓Zfa, ↓Zfb, ↓Zfc, ↓Zfd, ↓Zfe, ↓Zff, ↓Zfg, ↓Zfh, ↓Zfi, ↓Zfj, ↓Zfk, ↓Zfl, ↓Zfm, ↓Zfn, ↓Zfo, ↓Zfp, ↓Zfq, ↓Zfr, ↓Zfs, ↓Zft, ↓Zfu, ↓Zfv, ↓Zfw, ↓Zfx, ↓Zfy, ↓Zfz, ↓Zga, ↓Zgb, ↓Zgc, ↓Zgd, ↓Zge, ↓Zgf, ↓Zgg, ↓Zgh, ↓Zgi, ↓Zgj, ↓Zgk, ↓Zgl, ↓Zgm, ↓Zgn, ↓Zgo, ↓Zgp, ↓Zgq, ↓Zgr, ↓Zgs, ↓Zgt, ↓Zgu, ↓Zgv, ↓Zgw, ↓Zgx, ↓Zgy, ↓Zgz, ↓Zha, ↓Zhb, ↓Zhc, ↓Zhd, ↓Zhe, ↓Zhf, ↓Zhg, ↓Zhh, ↓Zhi, ↓Zhj, ↓Zhk, ↓Zhl, ↓Zhm, ↓Zhn, ↓Zho, ↓Zhp, ↓Zhq, ↓Zhr, ↓Zhs, ↓Zht, ↓Zhu, ↓Zhv, ↓Zhw, ↓Zhx, ↓Zhy, ↓Zhz, ↓Zia, ↓Zib, ↓Zic, ↓Zid, ↓Zie, ↓Zif, ↓Zig, ↓Zih, ↓Zii, ↓Zij, ↓Zik, reduceIte, if_true, if_false, Bool.false_eq_true, Bool.and_true, Bool.true_and, Bool.and_false, Bool.false_and, Bool.or_true, Bool.true_or, Bool.or_false, Bool.false_or, Int.cast_ofNat_Int, Zil, Zim, beq_self_eq_true, Int.reduceBEq, Int.reduceLT, Int.reduceLE, Int.reduceEq, Int.reduceNeg, Nat.reduceLT, Zin, Zio, Ziq, Zir, Zis, Zit, Ziu, Ziv, Ziw, Zix, Ziy, Ziz, Zja, Zjb, Zjc, Zjd, Zje, Zjf, Zjg, Zjh, Zji, Zjj, Zjk, Zjl, Zjm, Zjn, Zjo, Zjp, Zjq, Zjr, Zjs, Zjt, Zju, Zjv, Zjw, Zjx, Zjy, Zjz, Zka, Zkb, Zkc, Zkd, Zke, Zkf, Zkg, Zkh, Zki, Zkj, Zkk, Zkl, Zkm, Zkn, Zko, Zkp, List.lookup_nil, Zkq, Zkr, Option.map_some, Option.map_none, Option.bind_some, Option.bind_none, List.map_nil, List.map_cons, List.nil_append, List.cons_append, List.append_nil, List.length_cons, List.length_nil, Nat.reduceAdd, Nat.reduceLeDiff, Nat.reduceEqDiff, Nat.reduceBEq, decide_true, decide_false, Bool.not_true, Bool.not_false, Zks, Zkt, Zku, Zkv, Zkw, Zkx, Zky, Zkz, Zla, Zlb, Zlc, Zld, Zle, Zlf, List.getElem?_cons_zero, List.getElem?_cons_succ, Zlg, Zlh, Zli, Zlj, Zlk, Zll, Zlm, Zln, Zlo, Zlp, Zlq, Zlr, Zls, Zlt, Zlu, Zlv, Zlw, Zlx, Zly, setX, Zlz, Zma, Zmb, Int.ofNat_lt, Int.ofNat_le, hx, hy, mod_ii (show (0 : Int) < 2147483647 by decide), mod_ii (show (0 : Int) < 2147483629 by decide), mod_ii hb, mul_ii (mulOk_lt (lt31 m0 m1) (show (48271 : Int).natAbs < 2 ^ 40 by decide) (by decide) (by decide) (by decide)), mul_ii (mulOk_lt (show (11 : Int).natAbs < 2 ^ 40 by decide) (show (i : Int).natAbs < 2 ^ 40 by omega) (by decide) (by decide) (by decide)), mul_ii (mulOk_lt (show (5 : Int).natAbs < 2 ^ 40 by decide) (show (i : Int).natAbs < 2 ^ 40 by omega) (by decide) (by decide) (by decide))]
      generalize hm' : (m * 48271 + 11 * (i : Int) + k) % 2147483647 = m'
      have m2 : 0 ≤ m' := by rw [← hm']; exact Int.emod_nonneg _ (by decide)
      have m3 : m' < 2147483647 := by rw [← hm']; exact Int.emod_lt_of_pos _ (by decide)
      simp -implicitDefEqProofs -dsimp only [↓Zaa, ↓Zab, ↓Zac, ↓Zad, ↓Zae, ↓Zaf, ↓Zag, ↓Zah, ↓Zai, ↓Zaj, ↓Zak, ↓Zal, ↓Zam, ↓Zan, ↓Zao, ↓Zap, ↓Zaq, ↓Zar, ↓Zas, ↓Zat, ↓Zau, ↓Zav, ↓Zaw, ↓Zax, ↓Zay, ↓Zaz, ↓Zba, ↓Zbb, ↓Zbc, ↓Zbd, ↓Zbe, ↓Zbf, ↓Zbg, ↓Zbh, ↓Zbi, ↓Zbj, ↓Zbk, ↓Zbl, ↓Zbm, ↓Zbn, ↓Zbo, ↓Zbp, ↓Zbq, ↓Zbr, ↓Zbs, ↓Zbt, ↓Zbu, ↓Zbv, ↓Zbw, ↓Zbx, ↓Zby, ↓Zbz, ↓Zca, ↓Zcb, ↓Zcc, ↓Zcd, ↓Zce, ↓Zcf, ↓Zcg, ↓Zch, ↓Zci, ↓Zcj, ↓Zck, ↓Zcl, ↓Zcm, ↓Zcn, ↓Zco, ↓Zcp, ↓Zcq, ↓Zcr, ↓Zcs, ↓Zct, ↓Zcu, ↓Zcv, ↓Zcw, ↓Zcx, ↓Zcy, ↓Zcz, ↓Zda, ↓Zdb, ↓Zdc, ↓Zdd, ↓Zde, ↓Zdf, ↓Zdg, ↓Zdh, ↓Zdi, ↓Zdj, ↓Zdk, ↓Zdl, ↓Zdm, ↓Zdn, ↓Zdo, ↓Zdp, ↓Zdq, ↓Zdr, ↓Zds, ↓Zdt, ↓Zdu, ↓Zdv, ↓Zdw, ↓Zdx, ↓Zdy, ↓Zdz, ↓Zea, ↓Zeb, ↓Zec, ↓Zed, ↓Zee, ↓Zef, ↓Zeg, ↓Zeh, ↓Zei, ↓Zej, ↓Zek, ↓Zel, ↓Zem, ↓Zen, ↓Zeo, ↓Zep, ↓Zeq, ↓Zer, ↓Zes, ↓Zet, ↓Zeu, ↓Zev, ↓Zew, ↓Zex, ↓Zey, ↓Zez, ↓Zfa, ↓Zfb, ↓Zfc, ↓Zfd, ↓Zfe, ↓Zff, ↓Zfg, ↓Zfh, ↓Zfi, ↓Zfj, ↓Zfk, ↓Zfl, ↓Zfm, ↓Zfn, ↓Zfo, ↓Zfp, ↓Zfq, ↓Zfr, ↓Zfs, ↓Zft, ↓Zfu, ↓Zfv, ↓Zfw, ↓Zfx, ↓Zfy, ↓Zfz, ↓Zga, ↓Zgb, ↓Zgc, ↓Zgd, ↓Zge, ↓Zgf, ↓Zgg, ↓Zgh, ↓Zgi, ↓Zgj, ↓Zgk, ↓Zgl, ↓Zgm, ↓Zgn, ↓Zgo, ↓Zgp, ↓Zgq, ↓Zgr, ↓Zgs, ↓Zgt, ↓Zgu, ↓Zgv, ↓Zgw, ↓Zgx, ↓Zgy, ↓Zgz, ↓Zha, ↓Zhb, ↓Zhc, ↓Zhd, ↓Zhe, ↓Zhf, ↓Zhg, ↓Zhh, ↓Zhi, ↓Zhj, ↓Zhk, ↓Zhl, ↓Zhm, ↓Zhn, ↓Zho, ↓Zhp, ↓Zhq, ↓Zhr, ↓Zhs, ↓Zht, ↓Zhu, ↓Zhv, ↓Zhw, ↓Zhx, ↓Zhy, ↓Zhz, ↓Zia, ↓Zib, ↓Zic, ↓Zid, ↓Zie, ↓Zif, ↓Zig, ↓Zih, ↓Zii, ↓Zij, ↓Zik, reduceIte, if_true, if_false, Bool.false_eq_true, Bool.and_true, Bool.true_and, Bool.and_false, Bool.false_and, Bool.or_true, Bool.true_or, Bool.or_false, Bool.false_or, Int.cast_ofNat_Int, Zil, Zim, beq_self_eq_true, Int.reduceBEq, Int.reduceLT, Int.reduceLE, Int.reduceEq, Int.reduceNeg, Nat.reduceLT, Zin, Zio, Ziq, Zir, Zis, Zit, Ziu, Ziv, Ziw, Zix, Ziy, Ziz, Zja, Zjb, Zjc, Zjd, Zje, Zjf, Zjg, Zjh, Zji, Zjj, Zjk, Zjl, Zjm, Zjn, Zjo, Zjp, Zjq, Zjr, Zjs, Zjt, Zju, Zjv, Zjw, Zjx, Zjy, Zjz, Zka, Zkb, Zkc, Zkd, Zke, Zkf, Zkg, Zkh, Zki, Zkj, Zkk, Zkl, Zkm, Zkn, Zko, Zkp, List.lookup_nil, Zkq, Zkr, Option.map_some, Option.map_none, Option.bind_some, Option.bind_none, List.map_nil, List.map_cons, List.nil_append, List.cons_append, List.append_nil, List.length_cons, List.length_nil, Nat.reduceAdd, Nat.reduceLeDiff, Nat.reduceEqDiff, Nat.reduceBEq, decide_true, decide_false, Bool.not_true, Bool.not_false, Zks, Zkt, Zku, Zkv, Zkw, Zkx, Zky, Zkz, Zla, Zlb, Zlc, Zld, Zle, Zlf, List.getElem?_cons_zero, List.getElem?_cons_succ, Zlg, Zlh, Zli, Zlj, Zlk, Zll, Zlm, Zln, Zlo, Zlp, Zlq, Zlr, Zls, Zlt, Zlu, Zlv, Zlw, Zlx, Zly, setX, Zlz, Zma, Zmb, Int.ofNat_lt, Int.ofNat_le, hx, hy, mod_ii (show (0 : Int) < 2147483629 by decide), mod_ii hb, mul_ii (mulOk_lt (lt31 m2 (by omega)) (show (69621 : Int).natAbs < 2 ^ 40 by decide) (by decide) (by decide) (by decide)), mul_ii (mulOk_lt (show (5 : Int).natAbs < 2 ^ 40 by decide) (show (i : Int).natAbs < 2 ^ 40 by omega) (by decide) (by decide) (by decide)), List.length_map, q]
      refine ⟨m', rs ++ [(m' * 69621 + 5 * (i : Int) + 7) % 2147483629 % bound], .val (.int i), .val (.int ((m' * 69621 + 5 * (i : Int) + 7) % 2147483629)), by simp, .val, .val, m2, by omega, by simp [hl], fun r h => ?_⟩
      rcases List.mem_append.mp h with h | h
      · exact hr r h
      · simp at h
        subst h
        exact ⟨Int.emod_nonneg _ hb0, Int.emod_lt_of_pos _ hb⟩
    · rintro e ⟨m, rs, x, y, rfl, hx, hy, m0, m1, hl, hr⟩
      simp -implicitDefEqProofs -dsimp only [↓Zaa, ↓Zab, ↓Zac, ↓Zad, ↓Zae, ↓Zaf, ↓Zag, ↓Zah, ↓Zai, ↓Zaj, ↓Zak, ↓Zal, ↓Zam, ↓Zan, ↓Zao, ↓Zap, ↓Zaq, ↓Zar, ↓Zas, ↓Zat, ↓Zau, ↓Zav, ↓Zaw, ↓Zax, ↓Zay, ↓Zaz, ↓Zba, ↓Zbb, ↓Zbc, ↓Zbd, ↓Zbe, ↓Zbf, ↓Zbg, ↓Zbh, ↓Zbi, ↓Zbj, ↓Zbk, ↓Zbl, ↓Zbm, ↓Zbn, ↓Zbo, ↓Zbp, ↓Zbq, ↓Zbr, ↓Zbs, ↓Zbt, ↓Zbu, ↓Zbv, ↓Zbw, ↓Zbx, ↓Zby, ↓Zbz, ↓Zca, ↓Zcb, ↓Zcc, ↓Zcd, ↓Zce, ↓Zcf, ↓Zcg, ↓Zch, ↓Zci, ↓Zcj, ↓Zck, ↓Zcl, ↓Zcm, ↓Zcn, ↓Zco, ↓Zcp, ↓Zcq, ↓Zcr, ↓Zcs, ↓Zct, ↓Zcu, ↓Zcv, ↓Zcw, ↓Zcx, ↓Zcy, ↓Zcz, ↓Zda, ↓Zdb, ↓Zdc, ↓Zdd, ↓Zde, ↓Zdf, ↓Zdg, ↓Zdh, ↓Zdi, ↓Zdj, ↓Zdk, ↓Zdl, ↓Zdm, ↓Zdn, ↓Zdo, ↓Zdp, ↓Zdq, ↓Zdr, ↓Zds, ↓Zdt, ↓Zdu, ↓Zdv, ↓Zdw, ↓Zdx, ↓Zdy, ↓Zdz, ↓Zea, ↓Zeb, ↓Zec, ↓Zed, ↓Zee, ↓Zef, ↓Zeg, ↓Zeh, ↓Zei, ↓Zej, ↓Zek, ↓Zel, ↓Zem, ↓Zen, ↓Zeo, ↓Zep, ↓Zeq, ↓Zer, ↓Zes, ↓Zet, ↓Zeu, ↓Zev, ↓Zew, ↓Zex, ↓Zey, ↓Zez, ↓Zfa, ↓Zfb, ↓Zfc, ↓Zfd, ↓Zfe, ↓Zff, ↓Zfg, ↓Zfh, ↓Zfi, ↓Zfj, ↓Zfk, ↓Zfl, ↓Zfm, ↓Zfn, ↓Zfo, ↓Zfp, ↓Zfq, ↓Zfr, ↓Zfs, ↓Zft, ↓Zfu, ↓Zfv, ↓Zfw, ↓Zfx, ↓Zfy, ↓Zfz, ↓Zga, ↓Zgb, ↓Zgc, ↓Zgd, ↓Zge, ↓Zgf, ↓Zgg, ↓Zgh, ↓Zgi, ↓Zgj, ↓Zgk, ↓Zgl, ↓Zgm, ↓Zgn, ↓Zgo, ↓Zgp, ↓Zgq, ↓Zgr, ↓Zgs, ↓Zgt, ↓Zgu, ↓Zgv, ↓Zgw, ↓Zgx, ↓Zgy, ↓Zgz, ↓Zha, ↓Zhb, ↓Zhc, ↓Zhd, ↓Zhe, ↓Zhf, ↓Zhg, ↓Zhh, ↓Zhi, ↓Zhj, ↓Zhk, ↓Zhl, ↓Zhm, ↓Zhn, ↓Zho, ↓Zhp, ↓Zhq, ↓Zhr, ↓Zhs, ↓Zht, ↓Zhu, ↓Zhv, ↓Zhw, ↓Zhx, ↓Zhy, ↓Zhz, ↓Zia, ↓Zib, ↓Zic, ↓Zid, ↓Zie, ↓Zif, ↓Zig, ↓Zih, ↓Zii, ↓Zij, ↓Zik, reduceIte, if_true, if_false, Bool.false_eq_true, Bool.and_true, Bool.true_and, Bool.and_false, Bool.false_and, Bool.or_true, Bool.true_or, Bool.or_false, Bool.false_or, Int.cast_ofNat_Int, Zil, Zim, beq_self_eq_true, Int.reduceBEq, Int.reduceLT, Int.reduceLE, Int.reduceEq, Int.reduceNeg, Nat.reduceLT, Zin, Zio, Ziq, Zir, Zis, Zit, Ziu, Ziv, Ziw, Zix, Ziy, Ziz, Zja, Zjb, Zjc, Zjd, Zje, Zjf, Zjg, Zjh, Zji, Zjj, Zjk, Zjl, Zjm, Zjn, Zjo, Zjp, Zjq, Zjr, Zjs, Zjt, Zju, Zjv, Zjw, Zjx, Zjy, Zjz, Zka, Zkb, Zkc, Zkd, Zke, Zkf, Zkg, Zkh, Zki, Zkj, Zkk, Zkl, Zkm, Zkn, Zko, Zkp, List.lookup_nil, Zkq, Zkr, Option.map_some, Option.map_none, Option.bind_some, Option.bind_none, List.map_nil, List.map_cons, List.nil_append, List.cons_append, List.append_nil, List.length_cons, List.length_nil, Nat.reduceAdd, Nat.reduceLeDiff, Nat.reduceEqDiff, Nat.reduceBEq, decide_true, decide_false, Bool.not_true, Bool.not_false, Zks, Zkt, Zku, Zkv, Zkw, Zkx, Zky, Zkz, Zla, Zlb, Zlc, Zld, Zle, Zlf, List.getElem?_cons_zero, List.getElem?_cons_succ, Zlg, Zlh, Zli, Zlj, Zlk, Zll, Zlm, Zln, Zlo, Zlp, Zlq, Zlr, Zls, Zlt, Zlu, Zlv, Zlw, Zlx, Zly, setX, Zlz, Zma, Zmb, Int.ofNat_lt, Int.ofNat_le]
      exact ⟨rs, rfl, hl, hr⟩
end L2.S.W

set_option Elab.async false
set_option linter.all false
set_option maxRecDepth 100000
set_option maxHeartbeats 8000000
namespace L2.S.W
open PySem PySem.Spec PyProof.Rows L2 L2.S
theorem l_combine {h w a k : Nat} {r : Nat → Nat → Rat} {y : Nat → Rat} (hr : ∀ i j, i < h → j < w → Sz a (r i j)) (hy : ∀ i, i < h → Sz k (y i)) (l : 1 + h * (k + a + 1) ≤ 10000000) (hh : h ≤ 1000) (hw : w ≤ 1000) {A B : D} (hA : ∀ i : Nat, ixD A (.int (i : Int)) = (vec h fun i => rowP w (r i))[(i : Nat)]?) (hB : ∀ i : Nat, ixD B (.int (i : Int)) = (vec h fun i => pD (y i))[(i : Nat)]?) (hL : bLen [A] = some (.d (.int (h : Int)))) : φ_law_combine [.val A, .val (.int w), .val B] = .ok (.d (rowP w fun j => sumN h fun i => y i * r i j)) [] := by
  apply run_law_combine
  unfold g_law_combine
  have hsh := smI_ok (show h ≤ 16777216 by omega)
  have hsw := smI_ok (show w ≤ 16777216 by omega)
  simp -implicitDefEqProofs -dsimp only [↓Zaa, ↓Zab, ↓Zac, ↓Zad, ↓Zae, ↓Zaf, ↓Zag, ↓Zah, ↓Zai, ↓Zaj, ↓Zak, ↓Zal, ↓Zam, ↓Zan, ↓Zao, ↓Zap, ↓Zaq, ↓Zar, ↓Zas, ↓Zat, ↓Zau, ↓Zav, ↓Zaw, ↓Zax, ↓Zay, ↓Zaz, ↓Zba, ↓Zbb, ↓Zbc, ↓Zbd, ↓Zbe, ↓Zbf, ↓Zbg, ↓Zbh, ↓Zbi, ↓Zbj, ↓Zbk, ↓Zbl, ↓Zbm, ↓Zbn, ↓Zbo, ↓Zbp, ↓Zbq, ↓Zbr, ↓Zbs, ↓Zbt, ↓Zbu, ↓Zbv, ↓Zbw, ↓Zbx, ↓Zby, ↓Zbz, ↓Zca, ↓Zcb, ↓Zcc, ↓Zcd, ↓Zce, ↓Zcf, ↓Zcg, ↓Zch, ↓Zci, ↓Zcj, ↓Zck, ↓Zcl, ↓Zcm, ↓Zcn, ↓Zco, ↓Zcp, ↓Zcq, ↓Zcr, ↓Zcs, ↓Zct, ↓Zcu, ↓Zcv, ↓Zcw, ↓Zcx, ↓Zcy, ↓Zcz, ↓Zda, ↓Zdb, ↓Zdc, ↓Zdd, ↓Zde, ↓Zdf, ↓Zdg, ↓Zdh, ↓Zdi, ↓Zdj, ↓Zdk, ↓Zdl, ↓Zdm, ↓Zdn, ↓Zdo, ↓Zdp, ↓Zdq, ↓Zdr, ↓Zds, ↓Zdt, ↓Zdu, ↓Zdv, ↓Zdw, ↓Zdx, ↓Zdy, ↓Zdz, ↓Zea, ↓Zeb, ↓Zec, ↓Zed, ↓Zee, ↓Zef, ↓Zeg, ↓Zeh, ↓Zei, ↓Zej, ↓Zek, ↓Zel, ↓Zem, ↓Zen, ↓Zeo, ↓Zep, ↓Zeq, ↓Zer, ↓Zes, ↓Zet, ↓Zeu, ↓Zev, ↓Zew, ↓Zex, ↓Zey, ↓Zez, ↓Zfa, ↓Zfb, ↓Zfc, ↓Zfd, ↓Zfe, ↓Zff, ↓Zfg, ↓Zfh, ↓Zfi, ↓Zfj, ↓Zfk, ↓Zfl, ↓Zfm, ↓Zfn, ↓Zfo, ↓Zfp, ↓Zfq, ↓Zfr, ↓Zfs, ↓Zft, ↓Zfu, ↓Zfv, ↓Zfw, ↓Zfx, ↓Zfy, ↓Zfz, ↓Zga, ↓Zgb, ↓Zgc, ↓Zgd, ↓Zge, ↓Zgf, ↓Zgg, ↓Zgh, ↓Zgi, ↓Zgj, ↓Zgk, ↓Zgl, ↓Zgm, ↓Zgn, ↓Zgo, ↓Zgp, ↓Zgq, ↓Zgr, ↓Zgs, ↓Zgt, ↓Zgu, ↓Zgv, ↓Zgw, ↓Zgx, ↓Zgy, ↓Zgz, ↓Zha, ↓Zhb, ↓Zhc, ↓Zhd, ↓Zhe, ↓Zhf, ↓Zhg, ↓Zhh, ↓Zhi, ↓Zhj, ↓Zhk, ↓Zhl, ↓Zhm, ↓Zhn, ↓Zho, ↓Zhp, ↓Zhq, ↓Zhr, ↓Zhs, ↓Zht, ↓Zhu, ↓Zhv, ↓Zhw, ↓Zhx, ↓Zhy, ↓Zhz, ↓Zia, ↓Zib, ↓Zic, ↓Zid, ↓Zie, ↓Zif, ↓Zig, ↓Zih, ↓Zii, ↓Zij, ↓Zik, reduceIte, if_true, if_false, Bool.false_eq_true, Bool.and_true, Bool.true_and, Bool.and_false, Bool.false_and, Bool.or_true, Bool.true_or, Bool.or_false, Bool.false_or, Int.cast_ofNat_Int, Zil, Zim, beq_self_eq_true, Int.reduceBEq, Int.reduceLT, Int.reduceLE, Int.reduceEq, Int.reduceNeg, Nat.reduceLT, Zin, Zio, Ziq, Zir, Zis, Zit, Ziu, Ziv, Ziw, Zix, Ziy, Ziz, Zja, Zjb, Zjc, Zjd, Zje, Zjf, Zjg, Zjh, Zji, Zjj, Zjk, Zjl, Zjm, Zjn, Zjo, Zjp, Zjq, Zjr, Zjs, Zjt, Zju, Zjv, Zjw, Zjx, Zjy, Zjz, Zka, Zkb, Zkc, Zkd, Zke, Zkf, Zkg, Zkh, Zki, Zkj, Zkk, Zkl, Zkm, Zkn, Zko, Zkp, List.lookup_nil, Zkq, Zkr, Option.map_some, Option.map_none, Option.bind_some, Option.bind_none, List.map_nil, List.map_cons, List.nil_append, List.cons_append, List.append_nil, List.length_cons, List.length_nil, Nat.reduceAdd, Nat.reduceLeDiff, Nat.reduceEqDiff, Nat.reduceBEq, decide_true, decide_false, Bool.not_true, Bool.not_false, Zks, Zkt, Zku, Zkv, Zkw, Zkx, Zky, Zkz, Zla, Zlb, Zlc, Zld, Zle, Zlf, List.getElem?_cons_zero, List.getElem?_cons_succ, Zlg, Zlh, Zli, Zlj, Zlk, Zll, Zlm, Zln, Zlo, Zlp, Zlq, Zlr, Zls, Zlt, Zlu, Zlv, Zlw, Zlx, Zly, setX, Zlz, Zma, Zmb, Int.ofNat_lt, Int.ofNat_le, hsw]
  refine lc_rng (fun i => pD 0) rfl (by simp only [wipeE, List.set_cons_zero, List.set_cons_succ]; rfl) (by omega) (fun i hi => ?_) ?_
  · simp -implicitDefEqProofs -dsimp only [↓Zaa, ↓Zab, ↓Zac, ↓Zad, ↓Zae, ↓Zaf, ↓Zag, ↓Zah, ↓Zai, ↓Zaj, ↓Zak, ↓Zal, ↓Zam, ↓Zan, ↓Zao, ↓Zap, ↓Zaq, ↓Zar, ↓Zas, ↓Zat, ↓Zau, ↓Zav, ↓Zaw, ↓Zax, ↓Zay, ↓Zaz, ↓Zba, ↓Zbb, ↓Zbc, ↓Zbd, ↓Zbe, ↓Zbf, ↓Zbg, ↓Zbh, ↓Zbi, ↓Zbj, ↓Zbk, ↓Zbl, ↓Zbm, ↓Zbn, ↓Zbo, ↓Zbp, ↓Zbq, ↓Zbr, ↓Zbs, ↓Zbt, ↓Zbu, ↓Zbv, ↓Zbw, ↓Zbx, ↓Zby, ↓Zbz, ↓Zca, ↓Zcb, ↓Zcc, ↓Zcd, ↓Zce, ↓Zcf, ↓Zcg, ↓Zch, ↓Zci, ↓Zcj, ↓Zck, ↓Zcl, ↓Zcm, ↓Zcn, ↓Zco, ↓Zcp, ↓Zcq, ↓Zcr, ↓Zcs, ↓Zct, ↓Zcu, ↓Zcv, ↓Zcw, ↓Zcx, ↓Zcy, ↓Zcz, ↓Zda, ↓Zdb, ↓Zdc, ↓Zdd, ↓Zde, ↓Zdf, ↓Zdg, ↓Zdh, ↓Zdi, ↓Zdj, ↓Zdk, ↓Zdl, ↓Zdm, ↓Zdn, ↓Zdo, ↓Zdp, ↓Zdq, ↓Zdr, ↓Zds, ↓Zdt, ↓Zdu, ↓Zdv, ↓Zdw, ↓Zdx, ↓Zdy, ↓Zdz, ↓Zea, ↓Zeb, ↓Zec, ↓Zed, ↓Zee, ↓Zef, ↓Zeg, ↓Zeh, ↓Zei, ↓Zej, ↓Zek, ↓Zel, ↓Zem, ↓Zen, ↓Zeo, ↓Zep, ↓Zeq, ↓Zer, ↓Zes, ↓Zet, ↓Zeu, ↓Zev, ↓Zew, ↓Zex, ↓Zey, ↓Zez, ↓Zfa, ↓Zfb, ↓Zfc, ↓Zfd, ↓Zfe, ↓Zff, ↓Zfg, ↓Zfh, ↓Zfi, ↓Zfj, ↓Zfk, ↓Zfl, ↓Zfm, ↓Zfn, ↓Zfo, ↓Zfp, ↓Zfq, ↓Zfr, ↓Zfs, ↓Zft, ↓Zfu, ↓Zfv, ↓Zfw, ↓Zfx, ↓Zfy, ↓Zfz, ↓Zga, ↓Zgb, ↓Zgc, ↓Zgd, ↓Zge, ↓Zgf, ↓Zgg, ↓Zgh, ↓Zgi, ↓Zgj, ↓Zgk, ↓Zgl, ↓Zgm, ↓Zgn, ↓Zgo, ↓Zgp, ↓Zgq, ↓Zgr, ↓Zgs, ↓Zgt, ↓Zgu, ↓Zgv, ↓Zgw, ↓Zgx, ↓Zgy, ↓Zgz, ↓Zha, ↓Zhb, ↓Zhc, ↓Zhd, ↓Zhe, ↓Zhf, ↓Zhg, ↓Zhh, ↓Zhi, ↓Zhj, ↓Zhk, ↓Zhl, ↓Zhm, ↓Zhn, ↓Zho, ↓Zhp, ↓Zhq, ↓Zhr, ↓Zhs, ↓Zht, ↓Zhu, ↓Zhv, ↓Zhw, ↓Zhx, ↓Zhy, ↓Zhz, ↓Zia, ↓Zib, ↓Zic, ↓Zid, ↓Zie, ↓Zif, ↓Zig, ↓Zih, ↓Zii, ↓Zij, ↓Zik, reduceIte, if_true, if_false, Bool.false_eq_true, Bool.and_true, Bool.true_and, Bool.and_false, Bool.false_and, Bool.or_true, Bool.true_or, Bool.or_false, Bool.false_or, Int.cast_ofNat_Int, Zil, Zim, beq_self_eq_true, Int.reduceBEq, Int.reduceLT, Int.reduceLE, Int.reduceEq, Int.reduceNeg, Nat.reduceLT, Zin, Zio, Ziq, Zir, Zis, Zit, Ziu, Ziv, Ziw, Zix, Ziy, Ziz, Zja, Zjb, Zjc, Zjd, Zje, Zjf, Zjg, Zjh, Zji, Zjj, Zjk, Zjl, Zjm, Zjn, Zjo, Zjp, Zjq, Zjr, Zjs, Zjt, Zju, Zjv, Zjw, Zjx, Zjy, Zjz, Zka, Zkb, Zkc, Zkd, Zke, Zkf, Zkg, Zkh, Zki, Zkj, Zkk, Zkl, Zkm, Zkn, Zko, Zkp, List.lookup_nil, Zkq, Zkr, Option.map_some, Option.map_none, Option.bind_some, Option.bind_none, List.map_nil, List.map_cons, List.nil_append, List.cons_append, List.append_nil, List.length_cons, List.length_nil, Nat.reduceAdd, Nat.reduceLeDiff, Nat.reduceEqDiff, Nat.reduceBEq, decide_true, decide_false, Bool.not_true, Bool.not_false, Zks, Zkt, Zku, Zkv, Zkw, Zkx, Zky, Zkz, Zla, Zlb, Zlc, Zld, Zle, Zlf, List.getElem?_cons_zero, List.getElem?_cons_succ, Zlg, Zlh, Zli, Zlj, Zlk, Zll, Zlm, Zln, Zlo, Zlp, Zlq, Zlr, Zls, Zlt, Zlu, Zlv, Zlw, Zlx, Zly, setX, Zlz, Zma, Zmb, Int.ofNat_lt, Int.ofNat_le]
    exact ⟨rfl, rfl, rfl⟩
  · simp -implicitDefEqProofs -dsimp only [↓Zaa, ↓Zab, ↓Zac, ↓Zad, ↓Zae, ↓Zaf, ↓Zag, ↓Zah, ↓Zai, ↓Zaj, ↓Zak, ↓Zal, ↓Zam, ↓Zan, ↓Zao, ↓Zap, ↓Zaq, ↓Zar, ↓Zas, ↓Zat, ↓Zau, ↓Zav, ↓Zaw, ↓Zax, ↓Zay, ↓Zaz, ↓Zba, ↓Zbb, ↓Zbc, ↓Zbd, ↓Zbe, ↓Zbf, ↓Zbg, ↓Zbh, ↓Zbi, ↓Zbj, ↓Zbk, ↓Zbl, ↓Zbm, ↓Zbn, ↓Zbo, ↓Zbp, ↓Zbq, ↓Zbr, ↓Zbs, ↓Zbt, ↓Zbu, ↓Zbv, ↓Zbw, ↓Zbx, ↓Zby, ↓Zbz, ↓Zca, ↓Zcb, ↓Zcc, ↓Zcd, ↓Zce, ↓Zcf, ↓Zcg, ↓Zch, ↓Zci, ↓Zcj, ↓Zck, ↓Zcl, ↓Zcm, ↓Zcn, ↓Zco, ↓Zcp, ↓Zcq, ↓Zcr, ↓Zcs, ↓Zct, ↓Zcu, ↓Zcv, ↓Zcw, ↓Zcx, ↓Zcy, ↓Zcz, ↓Zda, ↓Zdb, ↓Zdc, ↓Zdd, ↓Zde, ↓Zdf, ↓Zdg, ↓Zdh, ↓Zdi, ↓Zdj, ↓Zdk, ↓Zdl, ↓Zdm, ↓Zdn, ↓Zdo, ↓Zdp, ↓Zdq, ↓Zdr, ↓Zds, ↓Zdt, ↓Zdu, ↓Zdv, ↓Zdw, ↓Zdx, ↓Zdy, ↓Zdz, ↓Zea, ↓Zeb, ↓Zec, ↓Zed, ↓Zee, ↓Zef, ↓Zeg, ↓Zeh, ↓Zei, ↓Zej, ↓Zek, ↓Zel, ↓Zem, ↓Zen, ↓Zeo, ↓Zep, ↓Zeq, ↓Zer, ↓Zes, ↓Zet, ↓Zeu, ↓Zev, ↓Zew, ↓Zex, ↓Zey, ↓Zez, ↓Zfa, ↓Zfb, ↓Zfc, ↓Zfd, ↓Zfe, ↓Zff, ↓Zfg, ↓Zfh, ↓Zfi, ↓Zfj, ↓Zfk, ↓Zfl, ↓Zfm, ↓Zfn, ↓Zfo, ↓Zfp, ↓Zfq, ↓Zfr, ↓Zfs, ↓Zft, ↓Zfu, ↓Zfv, ↓Zfw, ↓Zfx, ↓Zfy, ↓Zfz, ↓Zga, ↓Zgb, ↓Zgc, ↓Zgd, ↓Zge, ↓Zgf, ↓Zgg, ↓Zgh, ↓Zgi, ↓Zgj, ↓Zgk, ↓Zgl, ↓Zgm, ↓Zgn, ↓Zgo, ↓Zgp, ↓Zgq, ↓Zgr, ↓Zgs, ↓Zgt, ↓Zgu, ↓Zgv, ↓Zgw, ↓Zgx, ↓Zgy, ↓Zgz, ↓Zha, ↓Zhb, ↓Zhc, ↓Zhd, ↓Zhe, ↓Zhf, ↓Zhg, ↓Zhh, ↓Zhi, ↓Zhj, ↓Zhk, ↓Zhl, ↓Zhm, ↓Zhn, ↓Zho, ↓Zhp, ↓Zhq, ↓Zhr, ↓Zhs, ↓Zht, ↓Zhu, ↓Zhv, ↓Zhw, ↓Zhx, ↓Zhy, ↓Zhz, ↓Zia, ↓Zib, ↓Zic, ↓Zid, ↓Zie, ↓Zif, ↓Zig, ↓Zih, ↓Zii, ↓Zij, ↓Zik, reduceIte, if_true, if_false, Bool.false_eq_true, Bool.and_true, Bool.true_and, Bool.and_false, Bool.false_and, Bool.or_true, Bool.true_or, Bool.or_false, Bool.false_or, Int.cast_ofNat_Int, Zil, Zim, beq_self_eq_true, Int.reduceBEq, Int.reduceLT, Int.reduceLE, Int.reduceEq, Int.reduceNeg, Nat.reduceLT, Zin, Zio, Ziq, Zir, Zis, Zit, Ziu, Ziv, Ziw, Zix, Ziy, Ziz, Zja, Zjb, Zjc, Zjd, Zje, Zjf, Zjg, Zjh, Zji, Zjj, Zjk, Zjl, Zjm, Zjn, Zjo, Zjp, Zjq, Zjr, Zjs, Zjt, Zju, Zjv, Zjw, Zjx, Zjy, Zjz, Zka, Zkb, Zkc, Zkd, Zke, Zkf, Zkg, Zkh, Zki, Zkj, Zkk, Zkl, Zkm, Zkn, Zko, Zkp, List.lookup_nil, Zkq, Zkr, Option.map_some, Option.map_none, Option.bind_some, Option.bind_none, List.map_nil, List.map_cons, List.nil_append, List.cons_append, List.append_nil, List.length_cons, List.length_nil, Nat.reduceAdd, Nat.reduceLeDiff, Nat.reduceEqDiff, Nat.reduceBEq, decide_true, decide_false, Bool.not_true, Bool.not_false, Zks, Zkt, Zku, Zkv, Zkw, Zkx, Zky, Zkz, Zla, Zlb, Zlc, Zld, Zle, Zlf, List.getElem?_cons_zero, List.getElem?_cons_succ, Zlg, Zlh, Zli, Zlj, Zlk, Zll, Zlm, Zln, Zlo, Zlp, Zlq, Zlr, Zls, Zlt, Zlu, Zlv, Zlw, Zlx, Zly, setX, Zlz, Zma, Zmb, Int.ofNat_lt, Int.ofNat_le, hL, hsh]
    refine for_r0 (fun i e => ∃ x4, e = [.val A, .val (.int w), .val B, .val (.lst (vec w fun j => pD (sumN i fun i => y i * r i j))), x4, .un] ∧ Fr1 x4) ?_ ?_ ?_
    · exact ⟨.un, rfl, .un⟩
    · rintro i e hi ⟨x4, rfl, y4⟩
      have p1 : (i + 1) * (k + a + 1) ≤ h * (k + a + 1) := Nat.mul_le_mul_right _ hi
      rw [Nat.add_mul] at p1
      simp -implicitDefEqProofs -dsimp only [↓Zaa, ↓Zab, ↓Zac, ↓Zad, ↓Zae, ↓Zaf, ↓Zag, ↓Zah, ↓Zai, ↓Zaj, ↓Zak, ↓Zal, ↓Zam, ↓Zan, ↓Zao, ↓Zap, ↓Zaq, ↓Zar, ↓Zas, ↓Zat, ↓Zau, ↓Zav, ↓Zaw, ↓Zax, ↓Zay, ↓Zaz, ↓Zba, ↓Zbb, ↓Zbc, ↓Zbd, ↓Zbe, ↓Zbf, ↓Zbg, ↓Zbh, ↓Zbi, ↓Zbj, ↓Zbk, ↓Zbl, ↓Zbm, ↓Zbn, ↓Zbo, ↓Zbp, ↓Zbq, ↓Zbr, ↓Zbs, ↓Zbt, ↓Zbu, ↓Zbv, ↓Zbw, ↓Zbx, ↓Zby, ↓Zbz, ↓Zca, ↓Zcb, ↓Zcc, ↓Zcd, ↓Zce, ↓Zcf, ↓Zcg, ↓Zch, ↓Zci, ↓Zcj, ↓Zck, ↓Zcl, ↓Zcm, ↓Zcn, ↓Zco, ↓Zcp, ↓Zcq, ↓Zcr, ↓Zcs, ↓Zct, ↓Zcu, ↓Zcv, ↓Zcw, ↓Zcx, ↓Zcy, ↓Zcz, ↓Zda, ↓Zdb, ↓Zdc, ↓Zdd, ↓Zde, ↓Zdf, ↓Zdg, ↓Zdh, ↓Zdi, ↓Zdj, ↓Zdk, ↓Zdl, ↓Zdm, ↓Zdn, ↓Zdo, ↓Zdp, ↓Zdq, ↓Zdr, ↓Zds, ↓Zdt, ↓Zdu, ↓Zdv, ↓Zdw, ↓Zdx, ↓Zdy, ↓Zdz, ↓Zea, ↓Zeb, ↓Zec, ↓Zed, ↓Zee, ↓Zef, ↓Zeg, ↓Zeh, ↓Zei, ↓Zej, ↓Zek, ↓Zel, ↓Zem, ↓Zen, ↓Zeo, ↓Zep, ↓Zeq, ↓Zer, ↓Zes, ↓Zet, ↓Zeu, ↓Zev, ↓Zew, ↓Zex, ↓Zey, ↓Zez, ↓Zfa, ↓Zfb, ↓Zfc, ↓Zfd, ↓Zfe, ↓Zff, ↓Zfg, ↓Zfh, ↓Zfi, ↓Zfj, ↓Zfk, ↓Zfl, ↓Zfm, ↓Zfn, ↓Zfo, ↓Zfp, ↓Zfq, ↓Zfr, ↓Zfs, ↓Zft, ↓Zfu, ↓Zfv, ↓Zfw, ↓Zfx, ↓Zfy, ↓Zfz, ↓Zga, ↓Zgb, ↓Zgc, ↓Zgd, ↓Zge, ↓Zgf, ↓Zgg, ↓Zgh, ↓Zgi, ↓Zgj, ↓Zgk, ↓Zgl, ↓Zgm, ↓Zgn, ↓Zgo, ↓Zgp, ↓Zgq, ↓Zgr, ↓Zgs, ↓Zgt, ↓Zgu, ↓Zgv, ↓Zgw, ↓Zgx, ↓Zgy, ↓Zgz, ↓Zha, ↓Zhb, ↓Zhc, ↓Zhd, ↓Zhe, ↓Zhf, ↓Zhg, ↓Zhh, ↓Zhi, ↓Zhj, ↓Zhk, ↓Zhl, ↓Zhm, ↓Zhn, ↓Zho, ↓Zhp, ↓Zhq, ↓Zhr, ↓Zhs, ↓Zht, ↓Zhu, ↓Zhv, ↓Zhw, ↓Zhx, ↓Zhy, ↓Zhz, ↓Zia, ↓Zib, ↓Zic, ↓Zid, ↓Zie, ↓Zif, ↓Zig, ↓Zih, ↓Zii, ↓Zij, ↓Zik, reduceIte, if_true, if_false, Bool.false_eq_true, Bool.and_true, Bool.true_and, Bool.and_false, Bool.false_and, Bool.or_true, Bool.true_or, Bool.or_false, Bool.false_or, Int.cast_ofNat_Int, Zil, Zim, beq_self_eq_true, Int.reduceBEq, Int.reduceLT, Int.reduceLE, Int.reduceEq, Int.reduceNeg, Nat.reduceLT, Zin, Zio, Ziq, Zir, Zis, Zit, Ziu, Ziv, Ziw, Zix, Ziy, Ziz, Zja, Zjb, Zjc, Zjd, Zje, Zjf, Zjg, Zjh, Zji, Zjj, Zjk, Zjl, Zjm, Zjn, Zjo, Zjp, Zjq, Zjr, Zjs, Zjt, Zju, Zjv, Zjw, Zjx, Zjy, Zjz, Zka, Zkb, Zkc, Zkd, Zke, Zkf, Zkg, Zkh, Zki, Zkj, Zkk, Zkl, Zkm, Zkn, Zko, Zkp, List.lookup_nil, Zkq, Zkr, Option.map_some, Option.map_none, Option.bind_some, Option.bind_none, List.map_nil, List.map_cons, List.nil_append, List.cons_append, List.append_nil, List.length_cons, List.length_nil, Nat.reduceAdd, Nat.reduceLeDiff, Nat.reduceEqDiff, Nat.reduceBEq, decide_true, decide_false, Bool.not_true, Bool.not_false, Zks, Zkt, Zku, Zkv, Zkw, Zkx, Zky, Zkz, Zla, Zlb, Zlc, Zld, Zle, Zlf, List.getElem?_cons_zero, List.getElem?_cons_succ, Zlg, Zlh, Zli, Zlj, Zlk, Zll, Zlm, Zln, Zlo, Zlp, Zlq, Zlr, Zls, Zlt, Zlu, Zlv, Zlw, Zlx, Zly, setX, Zlz, Zma, Zmb, Int.ofNat_lt, Int.ofNat_le, y4, hsw]
      refine lc_rng (fun j => pD (sumN (i + 1) fun i => y i * r i j)) rfl (by simp only [wipeE, List.set_cons_zero, List.set_cons_succ]; rfl) (by omega) (fun j hj => ?_) ?_
      · have hz := sum_sz (n := i) (fun m hm => hy m (by omega)) fun m hm => hr m j (by omega) hj
        simp -implicitDefEqProofs -dsimp only [↓Zaa, ↓Zab, ↓Zac, ↓Zad, ↓Zae, ↓Zaf, ↓Zag, ↓Zah, ↓Zai, ↓Zaj, ↓Zak, ↓Zal, ↓Zam, ↓Zan, ↓Zao, ↓Zap, ↓Zaq, ↓Zar, ↓Zas, ↓Zat, ↓Zau, ↓Zav, ↓Zaw, ↓Zax, ↓Zay, ↓Zaz, ↓Zba, ↓Zbb, ↓Zbc, ↓Zbd, ↓Zbe, ↓Zbf, ↓Zbg, ↓Zbh, ↓Zbi, ↓Zbj, ↓Zbk, ↓Zbl, ↓Zbm, ↓Zbn, ↓Zbo, ↓Zbp, ↓Zbq, ↓Zbr, ↓Zbs, ↓Zbt, ↓Zbu, ↓Zbv, ↓Zbw, ↓Zbx, ↓Zby, ↓Zbz, ↓Zca, ↓Zcb, ↓Zcc, ↓Zcd, ↓Zce, ↓Zcf, ↓Zcg, ↓Zch, ↓Zci, ↓Zcj, ↓Zck, ↓Zcl, ↓Zcm, ↓Zcn, ↓Zco, ↓Zcp, ↓Zcq, ↓Zcr, ↓Zcs, ↓Zct, ↓Zcu, ↓Zcv, ↓Zcw, ↓Zcx, ↓Zcy, ↓Zcz, ↓Zda, ↓Zdb, ↓Zdc, ↓Zdd, ↓Zde, ↓Zdf, ↓Zdg, ↓Zdh, ↓Zdi, ↓Zdj, ↓Zdk, ↓Zdl, ↓Zdm, ↓Zdn, ↓Zdo, ↓Zdp, ↓Zdq, ↓Zdr, ↓Zds, ↓Zdt, ↓Zdu, ↓Zdv, ↓Zdw, ↓Zdx, ↓Zdy, ↓Zdz, ↓Zea, ↓Zeb, ↓Zec, ↓Zed, ↓Zee, ↓Zef, ↓Zeg, ↓Zeh, ↓Zei, ↓Zej, ↓Zek, ↓Zel, ↓Zem, ↓Zen, ↓Zeo, ↓Zep, ↓Zeq, ↓Zer, ↓Zes, ↓Zet, ↓Zeu, ↓Zev, ↓Zew, ↓Zex, ↓Zey, ↓Zez, ↓Zfa, ↓Zfb, ↓Zfc, ↓Zfd, ↓Zfe, ↓Zff, ↓Zfg, ↓Zfh, ↓Zfi, ↓Zfj, ↓Zfk, ↓Zfl, ↓Zfm, ↓Zfn, ↓Zfo, ↓Zfp, ↓Zfq, ↓Zfr, ↓Zfs, ↓Zft, ↓Zfu, ↓Zfv, ↓Zfw, ↓Zfx, ↓Zfy, ↓Zfz, ↓Zga, ↓Zgb, ↓Zgc, ↓Zgd, ↓Zge, ↓Zgf, ↓Zgg, ↓Zgh, ↓Zgi, ↓Zgj, ↓Zgk, ↓Zgl, ↓Zgm, ↓Zgn, ↓Zgo, ↓Zgp, ↓Zgq, ↓Zgr, ↓Zgs, ↓Zgt, ↓Zgu, ↓Zgv, ↓Zgw, ↓Zgx, ↓Zgy, ↓Zgz, ↓Zha, ↓Zhb, ↓Zhc, ↓Zhd, ↓Zhe, ↓Zhf, ↓Zhg, ↓Zhh, ↓Zhi, ↓Zhj, ↓Zhk, ↓Zhl, ↓Zhm, ↓Zhn, ↓Zho, ↓Zhp, ↓Zhq, ↓Zhr, ↓Zhs, ↓Zht, ↓Zhu, ↓Zhv, ↓Zhw, ↓Zhx, ↓Zhy, ↓Zhz, ↓Zia, ↓Zib, ↓Zic, ↓Zid, ↓Zie, ↓Zif, ↓Zig, ↓Zih, ↓Zii, ↓Zij, ↓Zik, reduceIte, if_true, if_false, Bool.false_eq_true, Bool.and_true, Bool.true_and, Bool.and_false, Bool.false_and, Bool.or_true, Bool.true_or, Bool.or_false, Bool.false_or, Int.cast_ofNat_Int, Zil, Zim, beq_self_eq_true, Int.reduceBEq, Int.reduceLT, Int.reduceLE, Int.reduceEq, Int.reduceNeg, Nat.reduceLT, Zin, Zio, Ziq, Zir, Zis, Zit, Ziu, Ziv, Ziw, Zix, Ziy, Ziz, Zja, Zjb, Zjc, Zjd, Zje, Zjf, Zjg, Zjh, Zji, Zjj, Zjk, Zjl, Zjm, Zjn, Zjo, Zjp, Zjq, Zjr, Zjs, Zjt, Zju, Zjv, Zjw, Zjx, Zjy, Zjz, Zka, Zkb, Zkc, Zkd, Zke, Zkf, Zkg, Zkh, Zki, Zkj, Zkk, Zkl, Zkm, Zkn, Zko, Zkp, List.lookup_nil, Zkq, Zkr, Option.map_some, Option.map_none, Option.bind_some, Option.bind_none, List.map_nil, List.map_cons, List.nil_append, List.cons_append, List.append_nil, List.length_cons, List.length_nil, Nat.reduceAdd, Nat.reduceLeDiff, Nat.reduceEqDiff, Nat.reduceBEq, decide_true, decide_false, Bool.not_true, Bool.not_false, Zks, Zkt, Zku, Zkv, Zkw, Zkx, Zky, Zkz, Zla, Zlb, Zlc, Zld, Zle, Zlf, List.getElem?_cons_zero, List.getElem?_cons_succ, Zlg, Zlh, Zli, Zlj, Zlk, Zll, Zlm, Zln, Zlo, Zlp, Zlq, Zlr, Zls, Zlt, Zlu, Zlv, Zlw, Zlx, Zly, setX, Zlz, Zma, Zmb, Int.ofNat_lt, Int.ofNat_le, hA, hB, vec_atI hj, vec_get hi, l_mul (hy i hi) (hr i j hi hj) (by omega), l_add hz ((hy i hi).mul (hr i j hi hj)) (by omega)]
        exact ⟨rfl, rfl, rfl⟩
      · simp -implicitDefEqProofs -dsimp only [↓Zaa, ↓Zab, ↓Zac, ↓Zad, ↓Zae, ↓Zaf, ↓Zag, ↓Zah, ↓Zai, ↓Zaj, ↓Zak, ↓Zal, ↓Zam, ↓Zan, ↓Zao, ↓Zap, ↓Zaq, ↓Zar, ↓Zas, ↓Zat, ↓Zau, ↓Zav, ↓Zaw, ↓Zax, ↓Zay, ↓Zaz, ↓Zba, ↓Zbb, ↓Zbc, ↓Zbd, ↓Zbe, ↓Zbf, ↓Zbg, ↓Zbh, ↓Zbi, ↓Zbj, ↓Zbk, ↓Zbl, ↓Zbm, ↓Zbn, ↓Zbo, ↓Zbp, ↓Zbq, ↓Zbr, ↓Zbs, ↓Zbt, ↓Zbu, ↓Zbv, ↓Zbw, ↓Zbx, ↓Zby, ↓Zbz, ↓Zca, ↓Zcb, ↓Zcc, ↓Zcd, ↓Zce, ↓Zcf, ↓Zcg, ↓Zch, ↓Zci, ↓Zcj, ↓Zck, ↓Zcl, ↓Zcm, ↓Zcn, ↓Zco, ↓Zcp, ↓Zcq, ↓Zcr, ↓Zcs, ↓Zct, ↓Zcu, ↓Zcv, ↓Zcw, ↓Zcx, ↓Zcy, ↓Zcz, ↓Zda, ↓Zdb, ↓Zdc, ↓Zdd, ↓Zde, ↓Zdf, ↓Zdg, ↓Zdh, ↓Zdi, ↓Zdj, ↓Zdk, ↓Zdl, ↓Zdm, ↓Zdn, ↓Zdo, ↓Zdp, ↓Zdq, ↓Zdr, ↓Zds, ↓Zdt, ↓Zdu, ↓Zdv, ↓Zdw, ↓Zdx, ↓Zdy, ↓Zdz, ↓Zea, ↓Zeb, ↓Zec, ↓Zed, ↓Zee, ↓Zef, ↓Zeg, ↓Zeh, ↓Zei, ↓Zej, ↓Zek, ↓Zel, ↓Zem, ↓Zen, ↓Zeo, ↓Zep, ↓Zeq, ↓Zer, ↓Zes, ↓Zet, ↓Zeu, ↓Zev, ↓Zew, ↓Zex, ↓Zey, ↓Zez, ↓Zfa, ↓Zfb, ↓Zfc, ↓Zfd, ↓Zfe, ↓Zff, ↓Zfg, ↓Zfh, ↓Zfi, ↓Zfj, ↓Zfk, ↓Zfl, ↓Zfm, ↓Zfn, ↓Zfo, ↓Zfp, ↓Zfq, ↓Zfr, ↓Zfs, ↓Zft, ↓Zfu, ↓Zfv, ↓Zfw, ↓Zfx, ↓Zfy, ↓Zfz, ↓Zga, ↓Zgb, ↓Zgc, ↓Zgd, ↓Zge, ↓Zgf, ↓Zgg, ↓Zgh, ↓Zgi, ↓Zgj, ↓Zgk, ↓Zgl, ↓Zgm, ↓Zgn, ↓Zgo, ↓Zgp, ↓Zgq, ↓Zgr, ↓Zgs, ↓Zgt, ↓Zgu, ↓Zgv, ↓Zgw, ↓Zgx, ↓Zgy, ↓Zgz, ↓Zha, ↓Zhb, ↓Zhc, ↓Zhd, ↓Zhe, ↓Zhf, ↓Zhg, ↓Zhh, ↓Zhi, ↓Zhj, ↓Zhk, ↓Zhl, ↓Zhm, ↓Zhn, ↓Zho, ↓Zhp, ↓Zhq, ↓Zhr, ↓Zhs, ↓Zht, ↓Zhu, ↓Zhv, ↓Zhw, ↓Zhx, ↓Zhy, ↓Zhz, ↓Zia, ↓Zib, ↓Zic, ↓Zid, ↓Zie, ↓Zif, ↓Zig, ↓Zih, ↓Zii, ↓Zij, ↓Zik, reduceIte, if_true, if_false, Bool.false_eq_true, Bool.and_true, Bool.true_and, Bool.and_false, Bool.false_and, Bool.or_true, Bool.true_or, Bool.or_false, Bool.false_or, Int.cast_ofNat_Int, Zil, Zim, beq_self_eq_true, Int.reduceBEq, Int.reduceLT, Int.reduceLE, Int.reduceEq, Int.reduceNeg, Nat.reduceLT, Zin, Zio, Ziq, Zir, Zis, Zit, Ziu, Ziv, Ziw, Zix, Ziy, Ziz, Zja, Zjb, Zjc, Zjd, Zje, Zjf, Zjg, Zjh, Zji, Zjj, Zjk, Zjl, Zjm, Zjn, Zjo, Zjp, Zjq, Zjr, Zjs, Zjt, Zju, Zjv, Zjw, Zjx, Zjy, Zjz, Zka, Zkb, Zkc, Zkd, Zke, Zkf, Zkg, Zkh, Zki, Zkj, Zkk, Zkl, Zkm, Zkn, Zko, Zkp, List.lookup_nil, Zkq, Zkr, Option.map_some, Option.map_none, Option.bind_some, Option.bind_none, List.map_nil, List.map_cons, List.nil_append, List.cons_append, List.append_nil, List.length_cons, List.length_nil, Nat.reduceAdd, Nat.reduceLeDiff, Nat.reduceEqDiff, Nat.reduceBEq, decide_true, decide_false, Bool.not_true, Bool.not_false, Zks, Zkt, Zku, Zkv, Zkw, Zkx, Zky, Zkz, Zla, Zlb, Zlc, Zld, Zle, Zlf, List.getElem?_cons_zero, List.getElem?_cons_succ, Zlg, Zlh, Zli, Zlj, Zlk, Zll, Zlm, Zln, Zlo, Zlp, Zlq, Zlr, Zls, Zlt, Zlu, Zlv, Zlw, Zlx, Zly, setX, Zlz, Zma, Zmb, Int.ofNat_lt, Int.ofNat_le]
        exact ⟨_, rfl, .val⟩
    · rintro e ⟨x4, rfl, y4⟩
      simp -implicitDefEqProofs -dsimp only [↓Zaa, ↓Zab, ↓Zac, ↓Zad, ↓Zae, ↓Zaf, ↓Zag, ↓Zah, ↓Zai, ↓Zaj, ↓Zak, ↓Zal, ↓Zam, ↓Zan, ↓Zao, ↓Zap, ↓Zaq, ↓Zar, ↓Zas, ↓Zat, ↓Zau, ↓Zav, ↓Zaw, ↓Zax, ↓Zay, ↓Zaz, ↓Zba, ↓Zbb, ↓Zbc, ↓Zbd, ↓Zbe, ↓Zbf, ↓Zbg, ↓Zbh, ↓Zbi, ↓Zbj, ↓Zbk, ↓Zbl, ↓Zbm, ↓Zbn, ↓Zbo, ↓Zbp, ↓Zbq, ↓Zbr, ↓Zbs, ↓Zbt, ↓Zbu, ↓Zbv, ↓Zbw, ↓Zbx, ↓Zby, ↓Zbz, ↓Zca, ↓Zcb, ↓Zcc, ↓Zcd, ↓Zce, ↓Zcf, ↓Zcg, ↓Zch, ↓Zci, ↓Zcj, ↓Zck, ↓Zcl, ↓Zcm, ↓Zcn, ↓Zco, ↓Zcp, ↓Zcq, ↓Zcr, ↓Zcs, ↓Zct, ↓Zcu, ↓Zcv, ↓Zcw, ↓Zcx, ↓Zcy, ↓Zcz, ↓Zda, ↓Zdb, ↓Zdc, ↓Zdd, ↓Zde, ↓Zdf, ↓Zdg, ↓Zdh, ↓Zdi, ↓Zdj, ↓Zdk, ↓Zdl, ↓Zdm, ↓Zdn, ↓Zdo, ↓Zdp, ↓Zdq, ↓Zdr, ↓Zds, ↓Zdt, ↓Zdu, ↓Zdv, ↓Zdw, ↓Zdx, ↓Zdy, ↓Zdz, ↓Zea, ↓Zeb, ↓Zec, ↓Zed, ↓Zee, ↓Zef, ↓Zeg, ↓Zeh, ↓Zei, ↓Zej, ↓Zek, ↓Zel, ↓Zem, ↓Zen, ↓Zeo, ↓Zep, ↓Zeq, ↓Zer, ↓Zes, ↓Zet, ↓Zeu, ↓Zev, ↓Zew, ↓Zex, ↓Zey, ↓Zez, ↓Zfa, ↓Zfb, ↓Zfc, ↓Zfd, ↓Zfe, ↓Zff, ↓Zfg, ↓Zfh, ↓Zfi, ↓Zfj, ↓Zfk, ↓Zfl, ↓Zfm, ↓Zfn, ↓Zfo, ↓Zfp, ↓Zfq, ↓Zfr, ↓Zfs, ↓Zft, ↓Zfu, ↓Zfv, ↓Zfw, ↓Zfx, ↓Zfy, ↓Zfz, ↓Zga, ↓Zgb, ↓Zgc, ↓Zgd, ↓Zge, ↓Zgf, ↓Zgg, ↓Zgh, ↓Zgi, ↓Zgj, ↓Zgk, ↓Zgl, ↓Zgm, ↓Zgn, ↓Zgo, ↓Zgp, ↓Zgq, ↓Zgr, ↓Zgs, ↓Zgt, ↓Zgu, ↓Zgv, ↓Zgw, ↓Zgx, ↓Zgy, ↓Zgz, ↓Zha, ↓Zhb, ↓Zhc, ↓Zhd, ↓Zhe, ↓Zhf, ↓Zhg, ↓Zhh, ↓Zhi, ↓Zhj, ↓Zhk, ↓Zhl, ↓Zhm, ↓Zhn, ↓Zho, ↓Zhp, ↓Zhq, ↓Zhr, ↓Zhs, ↓Zht, ↓Zhu, ↓Zhv, ↓Zhw, ↓Zhx, ↓Zhy, ↓Zhz, ↓Zia, ↓Zib, ↓Zic, ↓Zid, ↓Zie, ↓Zif, ↓Zig, ↓Zih, ↓Zii, ↓Zij, ↓Zik, reduceIte, if_true, if_false, Bool.false_eq_true, Bool.and_true, Bool.true_and, Bool.and_false, Bool.false_and, Bool.or_true, Bool.true_or, Bool.or_false, Bool.false_or, Int.cast_ofNat_Int, Zil, Zim, beq_self_eq_true, Int.reduceBEq, Int.reduceLT, Int.reduceLE, Int.reduceEq, Int.reduceNeg, Nat.reduceLT, Zin, Zio, Ziq, Zir, Zis, Zit, Ziu, Ziv, Ziw, Zix, Ziy, Ziz, Zja, Zjb, Zjc, Zjd, Zje, Zjf, Zjg, Zjh, Zji, Zjj, Zjk, Zjl, Zjm, Zjn, Zjo, Zjp, Zjq, Zjr, Zjs, Zjt, Zju, Zjv, Zjw, Zjx, Zjy, Zjz, Zka, Zkb, Zkc, Zkd, Zke, Zkf, Zkg, Zkh, Zki, Zkj, Zkk, Zkl, Zkm, Zkn, Zko, Zkp, List.lookup_nil, Zkq, Zkr, Option.map_some, Option.map_none, Option.bind_some, Option.bind_none, List.map_nil, List.map_cons, List.nil_append, List.cons_append, List.append_nil, List.length_cons, List.length_nil, Nat.reduceAdd, Nat.reduceLeDiff, Nat.reduceEqDiff, Nat.reduceBEq, decide_true, decide_false, Bool.not_true, Bool.not_false, Zks, Zkt, Zku, Zkv, Zkw, Zkx, Zky, Zkz, Zla, Zlb, Zlc, Zld, Zle, Zlf, List.getElem?_cons_zero, List.getElem?_cons_succ, Zlg, Zlh, Zli, Zlj, Zlk, Zll, Zlm, Zln, Zlo, Zlp, Zlq, Zlr, Zls, Zlt, Zlu, Zlv, Zlw, Zlx, Zly, setX, Zlz, Zma, Zmb, Int.ofNat_lt, Int.ofNat_le]
def sml (n d : Int) : Rat := Rat.divInt (n % 19 - 9) (d % 5 + 1)
theorem sml_sz (n d : Int) : Sz 20 (sml n d) := .div (by omega) (Bt.s20 (by omega) (by omega)) (Bt.s20 (by omega) (by omega))
theorem l_sml {n d : Int} : φ_law_small [.val (.int n), .val (.int d)] = .ok (.d (pD (sml n d))) [] := by
  have h0 : d % 5 + 1 ≠ 0 := by omega
  apply run_law_small
  unfold g_law_small sml
  simp -implicitDefEqProofs -dsimp only [↓Zaa, ↓Zab, ↓Zac, ↓Zad, ↓Zae, ↓Zaf, ↓Zag, ↓Zah, ↓Zai, ↓Zaj, ↓Zak, ↓Zal, ↓Zam, ↓Zan, ↓Zao, ↓Zap, ↓Zaq, ↓Zar, ↓Zas, ↓Zat, ↓Zau, ↓Zav, ↓Zaw, ↓Zax, ↓Zay, ↓Zaz, ↓Zba, ↓Zbb, ↓Zbc, ↓Zbd, ↓Zbe, ↓Zbf, ↓Zbg, ↓Zbh, ↓Zbi, ↓Zbj, ↓Zbk, ↓Zbl, ↓Zbm, ↓Zbn, ↓Zbo, ↓Zbp, ↓Zbq, ↓Zbr, ↓Zbs, ↓Zbt, ↓Zbu, ↓Zbv, ↓Zbw, ↓Zbx, ↓Zby, ↓Zbz, ↓Zca, ↓Zcb, ↓Zcc, ↓Zcd, ↓Zce, ↓Zcf, ↓Zcg, ↓Zch, ↓Zci, ↓Zcj, ↓Zck, ↓Zcl, ↓Zcm, ↓Zcn, ↓Zco, ↓Zcp, ↓Zcq, ↓Zcr, ↓Zcs, ↓Zct, ↓Zcu, ↓Zcv, ↓Zcw, ↓Zcx, ↓Zcy, ↓Zcz, ↓Zda, ↓Zdb, ↓Zdc, ↓Zdd, ↓Zde, ↓Zdf, ↓Zdg, ↓Zdh, ↓Zdi, ↓Zdj, ↓Zdk, ↓Zdl, ↓Zdm, ↓Zdn, ↓Zdo, ↓Zdp, ↓Zdq, ↓Zdr, ↓Zds, ↓Zdt, ↓Zdu, ↓Zdv, ↓Zdw, ↓Zdx, ↓Zdy, ↓Zdz, ↓Zea, ↓Zeb, ↓Zec, ↓Zed, ↓Zee, ↓Zef, ↓Zeg, ↓Zeh, ↓Zei, ↓Zej, ↓Zek, ↓Zel, ↓Zem, ↓Zen, ↓Zeo, ↓Zep, ↓Zeq, ↓Zer, ↓Zes, ↓Zet, ↓Zeu, ↓Zev, ↓Zew, ↓Zex, ↓Zey, ↓Zez, ↓Zfa, ↓Zfb, ↓Zfc, ↓Zfd, ↓Zfe, ↓Zff, ↓Zfg, ↓Zfh, ↓Zfi, ↓Zfj, ↓Zfk, ↓Zfl, ↓Zfm, ↓Zfn, ↓Zfo, ↓Zfp, ↓Zfq, ↓Zfr, ↓Zfs, ↓Zft, ↓Zfu, ↓Zfv, ↓Zfw, ↓Zfx, ↓Zfy, ↓Zfz, ↓Zga, ↓Zgb, ↓Zgc, ↓Zgd, ↓Zge, ↓Zgf, ↓Zgg, ↓Zgh, ↓Zgi, ↓Zgj, ↓Zgk, ↓Zgl, ↓Zgm, ↓Zgn, ↓Zgo, ↓Zgp, ↓Zgq, ↓Zgr, ↓Zgs, ↓Zgt, ↓Zgu, ↓Zgv, ↓Zgw, ↓Zgx, ↓Zgy, ↓Zgz, ↓Zha, ↓Zhb, ↓Zhc, ↓Zhd, ↓Zhe, ↓Zhf, ↓Zhg, ↓Zhh, ↓Zhi, ↓Zhj, ↓Zhk, ↓Zhl, ↓Zhm, ↓Zhn, ↓Zho, ↓Zhp, ↓Zhq, ↓Zhr, ↓Zhs, ↓Zht, ↓Zhu, ↓Zhv, ↓Zhw, ↓Zhx, ↓Zhy, ↓Zhz, ↓Zia, ↓Zib, ↓Zic, ↓Zid, ↓Zie, ↓Zif, ↓Zig, ↓Zih, ↓Zii, ↓Zij, ↓Zik, reduceIte, if_true, if_false, Bool.false_eq_true, Bool.and_true, Bool.true_and, Bool.and_false, Bool.false_and, Bool.or_true, Bool.true_or, Bool.or_false, Bool.false_or, Int.cast_ofNat_Int, Zil, Zim, beq_self_eq_true, Int.reduceBEq, Int.reduceLT, Int.reduceLE, Int.reduceEq, Int.reduceNeg, Nat.reduceLT, Zin, Zio, Ziq, Zir, Zis, Zit, Ziu, Ziv, Ziw, Zix, Ziy, Ziz, Zja, Zjb, Zjc, Zjd, Zje, Zjf, Zjg, Zjh, Zji, Zjj, Zjk, Zjl, Zjm, Zjn, Zjo, Zjp, Zjq, Zjr, Zjs, Zjt, Zju, Zjv, Zjw, Zjx, Zjy, Zjz, Zka, Zkb, Zkc, Zkd, Zke, Zkf, Zkg, Zkh, Zki, Zkj, Zkk, Zkl, Zkm, Zkn, Zko, Zkp, List.lookup_nil, Zkq, Zkr, Option.map_some, Option.map_none, Option.bind_some, Option.bind_none, List.map_nil, List.map_cons, List.nil_append, List.cons_append, List.append_nil, List.length_cons, List.length_nil, Nat.reduceAdd, Nat.reduceLeDiff, Nat.reduceEqDiff, Nat.reduceBEq, decide_true, decide_false, Bool.not_true, Bool.not_false, Zks, Zkt, Zku, Zkv, Zkw, Zkx, Zky, Zkz, Zla, Zlb, Zlc, Zld, Zle, Zlf, List.getElem?_cons_zero, List.getElem?_cons_succ, Zlg, Zlh, Zli, Zlj, Zlk, Zll, Zlm, Zln, Zlo, Zlp, Zlq, Zlr, Zls, Zlt, Zlu, Zlv, Zlw, Zlx, Zly, setX, Zlz, Zma, Zmb, Int.ofNat_lt, Int.ofNat_le, mod_ii (show (0 : Int) < 19 by decide), mod_ii (show (0 : Int) < 5 by decide), l_rat h0 rfl]
theorem ints_at {rs : List Int} {i : Nat} (h : i < rs.length) : atI (rs.map D.int) (i : Int) = some (.int (rs.getD i 0)) := by
  rw [Zjh, List.getElem?_map, List.getElem?_eq_getElem h, List.getD_eq_getElem?_getD, List.getElem?_eq_getElem h]
  rfl
def drawn (rs : List Int) (w k j : Nat) : Rat := sml (if (rs.getD (2 + 2 * (k * w + j)) 0 + rs.getD 0 0) % 3 == 0 then 9 else rs.getD (2 + 2 * (k * w + j)) 0) (rs.getD (3 + 2 * (k * w + j)) 0)
theorem l_matrix {ns : List Int} {k h w : Nat} (hk : k < 1000) (hh : h ≤ 10) (hw : w ≤ 10) : ∃ t : Nat → Nat → Rat, (∀ i j, Sz 20 (t i j)) ∧ φ_law_matrix [.val (.ro (ns.map D.int)), .val (.int k), .val (.int h), .val (.int w)] = .ok (.d (.tup (vec h fun i => rowP w (t i)))) [] := by
  have hhw : h * w ≤ 10 * 10 := Nat.mul_le_mul hh hw
  obtain ⟨rs, hr, hl, hb⟩ := s_draws ns k (2 * (h * w) + 2) 95 hk (by omega) (by decide)
  refine ⟨fun i => if (decide ((1 : Int) < h) && ((rs.getD 1 0) % 3 == 0)) && decide (i = h - 1) then drawn rs w 0 else drawn rs w i, fun i j => ?_, ?_⟩
  · dsimp only
    split <;> exact sml_sz ..
  apply run_law_matrix
  unfold g_law_matrix
  have ec : (2 * (h : Int) * (w : Int) + 2) = ((2 * (h * w) + 2 : Nat) : Int) := by rw [Int.mul_assoc]; simp
  have m1 : mulOk 2 (h : Int) = true := Bt.ok (Bt.s20 (by omega) (by omega)) (Bt.s20 (by omega) (by omega))
  have m2 : mulOk (2 * (h : Int)) (w : Int) = true := Bt.ok (Bt.s20 (by omega) (by omega)) (Bt.s20 (by omega) (by omega))
  have hsh := smI_ok (show h ≤ 16777216 by omega)
  have hsw := smI_ok (show w ≤ 16777216 by omega)
  have at0 : atI (rs.map D.int) 0 = some (.int (rs.getD 0 0)) := ints_at (i := 0) (by omega)
  have at1 : atI (rs.map D.int) 1 = some (.int (rs.getD 1 0)) := ints_at (i := 1) (by omega)
  simp -implicitDefEqProofs -dsimp only [↓Zaa, ↓Zab, ↓Zac, ↓Zad, ↓Zae, ↓Zaf, ↓Zag, ↓Zah, ↓Zai, ↓Zaj, ↓Zak, ↓Zal, ↓Zam, ↓Zan, ↓Zao, ↓Zap, ↓Zaq, ↓Zar, ↓Zas, ↓Zat, ↓Zau, ↓Zav, ↓Zaw, ↓Zax, ↓Zay, ↓Zaz, ↓Zba, ↓Zbb, ↓Zbc, ↓Zbd, ↓Zbe, ↓Zbf, ↓Zbg, ↓Zbh, ↓Zbi, ↓Zbj, ↓Zbk, ↓Zbl, ↓Zbm, ↓Zbn, ↓Zbo, ↓Zbp, ↓Zbq, ↓Zbr, ↓Zbs, ↓Zbt, ↓Zbu, ↓Zbv, ↓Zbw, ↓Zbx, ↓Zby, ↓Zbz, ↓Zca, ↓Zcb, ↓Zcc, ↓Zcd, ↓Zce, ↓Zcf, ↓Zcg, ↓Zch, ↓Zci, ↓Zcj, ↓Zck, ↓Zcl, ↓Zcm, ↓Zcn, ↓Zco, ↓Zcp, ↓Zcq, ↓Zcr, ↓Zcs, ↓Zct, ↓Zcu, ↓Zcv, ↓Zcw, ↓Zcx, ↓Zcy, ↓Zcz, ↓Zda, ↓Zdb, ↓Zdc, ↓Zdd, ↓Zde, ↓Zdf, ↓Zdg, ↓Zdh, ↓Zdi, ↓Zdj, ↓Zdk, ↓Zdl, ↓Zdm, ↓Zdn, ↓Zdo, ↓Zdp, ↓Zdq, ↓Zdr, ↓Zds, ↓Zdt, ↓Zdu, ↓Zdv, ↓Zdw, ↓Zdx, ↓Zdy, ↓Zdz, ↓Zea, ↓Zeb, ↓Zec, ↓Zed, ↓Zee, ↓Zef, ↓Zeg, ↓Zeh, ↓Zei, ↓Zej, ↓Zek, ↓Zel, ↓Zem, ↓Zen, ↓Zeo, ↓Zep, ↓Zeq, ↓Zer, ↓Zes, ↓Zet, ↓Zeu, ↓Zev, ↓Zew, ↓Zex, ↓Zey, ↓Zez, ↓Zfa, ↓Zfb, ↓Zfc, ↓Zfd, ↓Zfe, ↓Zff, ↓Zfg, ↓Zfh, ↓Zfi, ↓Zfj, ↓Zfk, ↓Zfl, ↓Zfm, ↓Zfn, ↓Zfo, ↓Zfp, ↓Zfq, ↓Zfr, ↓Zfs, ↓Zft, ↓Zfu, ↓Zfv, ↓Zfw, ↓Zfx, ↓Zfy, ↓Zfz, ↓Zga, ↓Zgb, ↓Zgc, ↓Zgd, ↓Zge, ↓Zgf, ↓Zgg, ↓Zgh, ↓Zgi, ↓Zgj, ↓Zgk, ↓Zgl, ↓Zgm, ↓Zgn, ↓Zgo, ↓Zgp, ↓Zgq, ↓Zgr, ↓Zgs, ↓Zgt, ↓Zgu, ↓Zgv, ↓Zgw, ↓Zgx, ↓Zgy, ↓Zgz, ↓Zha, ↓Zhb, ↓Zhc, ↓Zhd, ↓Zhe, ↓Zhf, ↓Zhg, ↓Zhh, ↓Zhi, ↓Zhj, ↓Zhk, ↓Zhl, ↓Zhm, ↓Zhn, ↓Zho, ↓Zhp, ↓Zhq, ↓Zhr, ↓Zhs, ↓Zht, ↓Zhu, ↓Zhv, ↓Zhw, ↓Zhx, ↓Zhy, ↓Zhz, ↓Zia, ↓Zib, ↓Zic, ↓Zid, ↓Zie, ↓Zif, ↓Zig, ↓Zih, ↓Zii, ↓Zij, ↓Zik, reduceIte, if_true, if_false, Bool.false_eq_true, Bool.and_true, Bool.true_and, Bool.and_false, Bool.false_and, Bool.or_true, Bool.true_or, Bool.or_false, Bool.false_or, Int.cast_ofNat_Int, Zil, Zim, beq_self_eq_true, Int.reduceBEq, Int.reduceLT, Int.reduceLE, Int.reduceEq, Int.reduceNeg, Nat.reduceLT, Zin, Zio, Ziq, Zir, Zis, Zit, Ziu, Ziv, Ziw, Zix, Ziy, Ziz, Zja, Zjb, Zjc, Zjd, Zje, Zjf, Zjg, Zjh, Zji, Zjj, Zjk, Zjl, Zjm, Zjn, Zjo, Zjp, Zjq, Zjr, Zjs, Zjt, Zju, Zjv, Zjw, Zjx, Zjy, Zjz, Zka, Zkb, Zkc, Zkd, Zke, Zkf, Zkg, Zkh, Zki, Zkj, Zkk, Zkl, Zkm, Zkn, Zko, Zkp, List.lookup_nil, Zkq, Zkr, Option.map_some, Option.map_none, Option.bind_some, Option.bind_none, List.map_nil, List.map_cons, List.nil_append, List.cons_append, List.append_nil, List.length_cons, List.length_nil, Nat.reduceAdd, Nat.reduceLeDiff, Nat.reduceEqDiff, Nat.reduceBEq, decide_true, decide_false, Bool.not_true, Bool.not_false, Zks, Zkt, Zku, Zkv, Zkw, Zkx, Zky, Zkz, Zla, Zlb, Zlc, Zld, Zle, Zlf, List.getElem?_cons_zero, List.getElem?_cons_succ, Zlg, Zlh, Zli, Zlj, Zlk, Zll, Zlm, Zln, Zlo, Zlp, Zlq, Zlr, Zls, Zlt, Zlu, Zlv, Zlw, Zlx, Zly, setX, Zlz, Zma, Zmb, Int.ofNat_lt, Int.ofNat_le, mul_ii m1, mul_ii m2, ec, hr, hsh]
  refine for_r0 (fun i e => ∃ x6 x7 x8 x9 x10, e = [.val (.ro (ns.map D.int)), .val (.int k), .val (.int h), .val (.int w), .val (.lst (rs.map D.int)), .own false (.l (vec i fun i => rowP w (drawn rs w i))), x6, x7, x8, x9, x10] ∧ Fr1 x6 ∧ Fr1 x7 ∧ Fr1 x8 ∧ Fr1 x9 ∧ Fr1 x10) ?_ ?_ ?_
  · exact ⟨.un, .un, .un, .un, .un, rfl, .un, .un, .un, .un, .un⟩
  · rintro i e hi ⟨x6, x7, x8, x9, x10, rfl, y6, y7, y8, y9, y10⟩
    simp -implicitDefEqProofs -dsimp only [↓Zaa, ↓Zab, ↓Zac, ↓Zad, ↓Zae, ↓Zaf, ↓Zag, ↓Zah, ↓Zai, ↓Zaj, ↓Zak, ↓Zal, ↓Zam, ↓Zan, ↓Zao, ↓Zap, ↓Zaq, ↓Zar, ↓Zas, ↓Zat, ↓Zau, ↓Zav, ↓Zaw, ↓Zax, ↓Zay, ↓Zaz, ↓Zba, ↓Zbb, ↓Zbc, ↓Zbd, ↓Zbe, ↓Zbf, ↓Zbg, ↓Zbh, ↓Zbi, ↓Zbj, ↓Zbk, ↓Zbl, ↓Zbm, ↓Zbn, ↓Zbo, ↓Zbp, ↓Zbq, ↓Zbr, ↓Zbs, ↓Zbt, ↓Zbu, ↓Zbv, ↓Zbw, ↓Zbx, ↓Zby, ↓Zbz, ↓Zca, ↓Zcb, ↓Zcc, ↓Zcd, ↓Zce, ↓Zcf, ↓Zcg, ↓Zch, ↓Zci, ↓Zcj, ↓Zck, ↓Zcl, ↓Zcm, ↓Zcn, ↓Zco, ↓Zcp, ↓Zcq, ↓Zcr, ↓Zcs, ↓Zct, ↓Zcu, ↓Zcv, ↓Zcw, ↓Zcx, ↓Zcy, ↓Zcz, ↓Zda, ↓Zdb, ↓Zdc, ↓Zdd, ↓Zde, ↓Zdf, ↓Zdg, ↓Zdh, ↓Zdi, ↓Zdj, ↓Zdk, ↓Zdl, ↓Zdm, ↓Zdn, ↓Zdo, ↓Zdp, ↓Zdq, ↓Zdr, ↓Zds, ↓Zdt, ↓Zdu, ↓Zdv, ↓Zdw, ↓Zdx, ↓Zdy, ↓Zdz, ↓Zea, ↓Zeb, ↓Zec, ↓Zed, ↓Zee, ↓Zef, ↓Zeg, ↓Zeh, ↓Zei, ↓Zej, ↓Zek, ↓Zel, ↓Zem, ↓Zen, ↓Zeo, ↓Zep, ↓Zeq, ↓Zer, ↓Zes, ↓Zet, ↓Zeu, ↓Zev, ↓Zew, ↓Zex, ↓Zey, ↓Zez, ↓Zfa, ↓Zfb, ↓Zfc, ↓Zfd, ↓Zfe, ↓Zff, ↓Zfg, ↓Zfh, ↓Zfi, ↓Zfj, ↓Zfk, ↓Zfl, ↓Zfm, ↓Zfn, ↓Zfo, ↓Zfp, ↓Zfq, ↓Zfr, ↓Zfs, ↓Zft, ↓Zfu, ↓Zfv, ↓Zfw, ↓Zfx, ↓Zfy, ↓Zfz, ↓Zga, ↓Zgb, ↓Zgc, ↓Zgd, ↓Zge, ↓Zgf, ↓Zgg, ↓Zgh, ↓Zgi, ↓Zgj, ↓Zgk, ↓Zgl, ↓Zgm, ↓Zgn, ↓Zgo, ↓Zgp, ↓Zgq, ↓Zgr, ↓Zgs, ↓Zgt, ↓Zgu, ↓Zgv, ↓Zgw, ↓Zgx, ↓Zgy, ↓Zgz, ↓Zha, ↓Zhb, ↓Zhc, ↓Zhd, ↓Zhe, ↓Zhf, ↓Zhg, ↓Zhh, ↓Zhi, ↓Zhj, ↓Zhk, ↓Zhl, ↓Zhm, ↓Zhn, ↓Zho, ↓Zhp, ↓Zhq, ↓Zhr, ↓Zhs, ↓Zht, ↓Zhu, ↓Zhv, ↓Zhw, ↓Zhx, ↓Zhy, ↓Zhz, ↓Zia, ↓Zib, ↓Zic, ↓Zid, ↓Zie, ↓Zif, ↓Zig, ↓Zih, ↓Zii, ↓Zij, ↓Zik, reduceIte, if_true, if_false, Bool.false_eq_true, Bool.and_true, Bool.true_and, Bool.and_false, Bool.false_and, Bool.or_true, Bool.true_or, Bool.or_false, Bool.false_or, Int.cast_ofNat_Int, Zil, Zim, beq_self_eq_true, Int.reduceBEq, Int.reduceLT, Int.reduceLE, Int.reduceEq, Int.reduceNeg, Nat.reduceLT, Zin, Zio, Ziq, Zir, Zis, Zit, Ziu, Ziv, Ziw, Zix, Ziy, Ziz, Zja, Zjb, Zjc, Zjd, Zje, Zjf, Zjg, Zjh, Zji, Zjj, Zjk, Zjl, Zjm, Zjn, Zjo, Zjp, Zjq, Zjr, Zjs, Zjt, Zju, Zjv, Zjw, Zjx, Zjy, Zjz, Zka, Zkb, Zkc, Zkd, Zke, Zkf, Zkg, Zkh, Zki, Zkj, Zkk, Zkl, Zkm, Zkn, Zko, Zkp, List.lookup_nil, Zkq, Zkr, Option.map_some, Option.map_none, Option.bind_some, Option.bind_none, List.map_nil, List.map_cons, List.nil_append, List.cons_append, List.append_nil, List.length_cons, List.length_nil, Nat.reduceAdd, Nat.reduceLeDiff, Nat.reduceEqDiff, Nat.reduceBEq, decide_true, decide_false, Bool.not_true, Bool.not_false, Zks, Zkt, Zku, Zkv, Zkw, Zkx, Zky, Zkz, Zla, Zlb, Zlc, Zld, Zle, Zlf, List.getElem?_cons_zero, List.getElem?_cons_succ, Zlg, Zlh, Zli, Zlj, Zlk, Zll, Zlm, Zln, Zlo, Zlp, Zlq, Zlr, Zls, Zlt, Zlu, Zlv, Zlw, Zlx, Zly, setX, Zlz, Zma, Zmb, Int.ofNat_lt, Int.ofNat_le, y6, y7, hsw]
    refine for_r0 (fun j e => ∃ x8 x9 x10, e = [.val (.ro (ns.map D.int)), .val (.int k), .val (.int h), .val (.int w), .val (.lst (rs.map D.int)), .own false (.l (vec i fun i => rowP w (drawn rs w i))), .val (.int i), .own false (.l (vec j fun j => pD (drawn rs w i j))), x8, x9, x10] ∧ Fr1 x8 ∧ Fr1 x9 ∧ Fr1 x10) ?_ ?_ ?_
    · exact ⟨x8, x9, x10, rfl, y8, y9, y10⟩
    · rintro j e hj ⟨x8, x9, x10, rfl, y8, y9, y10⟩
      have b1 : i * w + j < h * w := by
        have : (i + 1) * w ≤ h * w := Nat.mul_le_mul_right _ hi
        rw [Nat.add_mul] at this
        omega
      have e1 : (2 + 2 * ((i : Int) * (w : Int) + (j : Int))) = ((2 + 2 * (i * w + j) : Nat) : Int) := by push_cast; rfl
      have e2 : (3 + 2 * ((i : Int) * (w : Int) + (j : Int))) = ((3 + 2 * (i * w + j) : Nat) : Int) := by push_cast; rfl
      have m3 : mulOk (i : Int) (w : Int) = true := Bt.ok (Bt.s20 (by omega) (by omega)) (Bt.s20 (by omega) (by omega))
      have m4 : mulOk 2 ((i : Int) * (w : Int) + (j : Int)) = true := Bt.ok (Bt.s20 (by omega) (by omega)) (by
        rw [show (i : Int) * (w : Int) + (j : Int) = ((i * w + j : Nat) : Int) by push_cast; rfl]
        exact Bt.s20 (by omega) (by omega))
      have at2 := ints_at (rs := rs) (i := 2 + 2 * (i * w + j)) (by omega)
      have at3 := ints_at (rs := rs) (i := 3 + 2 * (i * w + j)) (by omega)
      have q : j < 16777216 := by omega
      simp -implicitDefEqProofs -dsimp only [↓Zaa, ↓Zab, ↓Zac, ↓Zad, ↓Zae, ↓Zaf, ↓Zag, ↓Zah, ↓Zai, ↓Zaj, ↓Zak, ↓Zal, ↓Zam, ↓Zan, ↓Zao, ↓Zap, ↓Zaq, ↓Zar, ↓Zas, ↓Zat, ↓Zau, ↓Zav, ↓Zaw, ↓Zax, ↓Zay, ↓Zaz, ↓Zba, ↓Zbb, ↓Zbc, ↓Zbd, ↓Zbe, ↓Zbf, ↓Zbg, ↓Zbh, ↓Zbi, ↓Zbj, ↓Zbk, ↓Zbl, ↓Zbm, ↓Zbn, ↓Zbo, ↓Zbp, ↓Zbq, ↓Zbr, ↓Zbs, ↓Zbt, ↓Zbu, ↓Zbv, ↓Zbw, ↓Zbx, ↓Zby, ↓Zbz, ↓Zca, ↓Zcb, ↓Zcc, ↓Zcd, ↓Zce, ↓Zcf, ↓Zcg, ↓Zch, ↓Zci, ↓Zcj, ↓Zck, ↓Zcl, ↓Zcm, ↓Zcn, ↓Zco, ↓Zcp, ↓Zcq, ↓Zcr, ↓Zcs, ↓Zct, ↓Zcu, ↓Zcv, ↓Zcw, ↓Zcx, ↓Zcy, ↓Zcz, ↓Zda, ↓Zdb, ↓Zdc, ↓Zdd, ↓Zde, ↓Zdf, ↓Zdg, ↓Zdh, ↓Zdi, ↓Zdj, ↓Zdk, ↓Zdl, ↓Zdm, ↓Zdn, ↓Zdo, ↓Zdp, ↓Zdq, ↓Zdr, ↓Zds, ↓Zdt, ↓Zdu, ↓Zdv, ↓Zdw, ↓Zdx, ↓Zdy, ↓Zdz, ↓Zea, ↓Zeb, ↓Zec, ↓Zed, ↓Zee, ↓Zef, ↓Zeg, ↓Zeh, ↓Zei, ↓Zej, ↓Zek, ↓Zel, ↓Zem, ↓Zen, ↓Zeo, ↓Zep, ↓Zeq, ↓Zer, ↓Zes, ↓Zet, ↓Zeu, ↓Zev, ↓Zew, ↓Zex, ↓Zey, ↓Zez, ↓Zfa, ↓Zfb, ↓Zfc, ↓Zfd, ↓Zfe, ↓Zff, ↓Zfg, ↓Zfh, ↓Zfi, ↓Zfj, ↓Zfk, ↓Zfl, ↓Zfm, ↓Zfn, ↓Zfo, ↓Zfp, ↓Zfq, ↓Zfr, ↓Zfs, ↓Zft, ↓Zfu, ↓Zfv, ↓Zfw, ↓Zfx, ↓Zfy, ↓Zfz, ↓Zga, ↓Zgb, ↓Zgc, ↓Zgd, ↓Zge, ↓Zgf, ↓Zgg, ↓Zgh, ↓Zgi, ↓Zgj, ↓Zgk, ↓Zgl, ↓Zgm, ↓Zgn, ↓Zgo, ↓Zgp, ↓Zgq, ↓Zgr, ↓Zgs, ↓Zgt, ↓Zgu, ↓Zgv, ↓Zgw, ↓Zgx, ↓Zgy, ↓Zgz, ↓Zha, ↓Zhb, ↓Zhc, ↓Zhd, ↓Zhe, ↓Zhf, ↓Zhg, ↓Zhh, ↓Zhi, ↓Zhj, ↓Zhk, ↓Zhl, ↓Zhm, ↓Zhn, ↓Zho, ↓Zhp, ↓Zhq, ↓Zhr, ↓Zhs, ↓Zht, ↓Zhu, ↓Zhv, ↓Zhw, ↓Zhx, ↓Zhy, ↓Zhz, ↓Zia, ↓Zib, ↓Zic, ↓Zid, ↓Zie, ↓Zif, ↓Zig, ↓Zih, ↓Zii, ↓Zij, ↓Zik, reduceIte, if_true, if_false, Bool.false_eq_true, Bool.and_true, Bool.true_and, Bool.and_false, Bool.false_and, Bool.or_true, Bool.true_or, Bool.or_false, Bool.false_or, Int.cast_ofNat_Int, Zil, Zim, beq_self_eq_true, Int.reduceBEq, Int.reduceLT, Int.reduceLE, Int.reduceEq, Int.reduceNeg, Nat.reduceLT, Zin, Zio, Ziq, Zir, Zis, Zit, Ziu, Ziv, Ziw, Zix, Ziy, Ziz, Zja, Zjb, Zjc, Zjd, Zje, Zjf, Zjg, Zjh, Zji, Zjj, Zjk, Zjl, Zjm, Zjn, Zjo, Zjp, Zjq, Zjr, Zjs, Zjt, Zju, Zjv, Zjw, Zjx, Zjy, Zjz, Zka, Zkb, Zkc, Zkd, Zke, Zkf, Zkg, Zkh, Zki, Zkj, Zkk, Zkl, Zkm, Zkn, Zko, Zkp, List.lookup_nil, Zkq, Zkr, Option.map_some, Option.map_none, Option.bind_some, Option.bind_none, List.map_nil, List.map_cons, List.nil_append, List.cons_append, List.append_nil, List.length_cons, List.length_nil, Nat.reduceAdd, Nat.reduceLeDiff, Nat.reduceEqDiff, Nat.reduceBEq, decide_true, decide_false, Bool.not_true, Bool.not_false, Zks, Zkt, Zku, Zkv, Zkw, Zkx, Zky, Zkz, Zla, Zlb, Zlc, Zld, Zle, Zlf, List.getElem?_cons_zero, List.getElem?_cons_succ, Zlg, Zlh, Zli, Zlj, Zlk, Zll, Zlm, Zln, Zlo, Zlp, Zlq, Zlr, Zls, Zlt, Zlu, Zlv, Zlw, Zlx, Zly, setX, Zlz, Zma, Zmb, Int.ofNat_lt, Int.ofNat_le, y8, y9, y10, mul_ii m3, mul_ii m4, e1, e2, at0, at2, at3, mod_ii (show (0 : Int) < 3 by decide)]
      have fin : vec j (fun j => pD (drawn rs w i j)) ++ [pD (drawn rs w i j)] = vec (j + 1) fun j => pD (drawn rs w i j) := vec_succ.symm
      refine iteK_by (fun hc => ?_) (fun hc => ?_)
      · have e3 : drawn rs w i j = sml 9 (rs.getD (3 + 2 * (i * w + j)) 0) := by unfold drawn; rw [if_pos hc]
        rw [e3] at fin
        simp -implicitDefEqProofs -dsimp only [↓Zaa, ↓Zab, ↓Zac, ↓Zad, ↓Zae, ↓Zaf, ↓Zag, ↓Zah, ↓Zai, ↓Zaj, ↓Zak, ↓Zal, ↓Zam, ↓Zan, ↓Zao, ↓Zap, ↓Zaq, ↓Zar, ↓Zas, ↓Zat, ↓Zau, ↓Zav, ↓Zaw, ↓Zax, ↓Zay, ↓Zaz, ↓Zba, ↓Zbb, ↓Zbc, ↓Zbd, ↓Zbe, ↓Zbf, ↓Zbg, ↓Zbh, ↓Zbi, ↓Zbj, ↓Zbk, ↓Zbl, ↓Zbm, ↓Zbn, ↓Zbo, ↓Zbp, ↓Zbq, ↓Zbr, ↓Zbs, ↓Zbt, ↓Zbu, ↓Zbv, ↓Zbw, ↓Zbx, ↓Zby, ↓Zbz, ↓Zca, ↓Zcb, ↓Zcc, ↓Zcd, ↓Zce, ↓Zcf, ↓Zcg, ↓Zch, ↓Zci, ↓Zcj, ↓Zck, ↓Zcl, ↓Zcm, ↓Zcn, ↓Zco, ↓Zcp, ↓Zcq, ↓Zcr, ↓Zcs, ↓Zct, ↓Zcu, ↓Zcv, ↓Zcw, ↓Zcx, ↓Zcy, ↓Zcz, ↓Zda, ↓Zdb, ↓Zdc, ↓Zdd, ↓Zde, ↓Zdf, ↓Zdg, ↓Zdh, ↓Zdi, ↓Zdj, ↓Zdk, ↓Zdl, ↓Zdm, ↓Zdn, ↓Zdo, ↓Zdp, ↓Zdq, ↓Zdr, ↓Zds, ↓Zdt, ↓Zdu, ↓Zdv, ↓Zdw, ↓Zdx, ↓Zdy, ↓Zdz, ↓Zea, ↓Zeb, ↓Zec, ↓Zed, ↓Zee, ↓Zef, ↓Zeg, ↓Zeh, ↓Zei, ↓Zej, ↓Zek, ↓Zel, ↓Zem, ↓Zen, ↓Zeo, ↓Zep, ↓Zeq, ↓Zer, ↓Zes, ↓Zet, ↓Zeu, ↓Zev, ↓Zew, ↓Zex, ↓Zey, ↓Zez, ↓Zfa, ↓Zfb, ↓Zfc, ↓Zfd, ↓Zfe, ↓Zff, ↓Zfg, ↓Zfh, ↓Zfi, ↓Zfj, ↓Zfk, ↓Zfl, ↓Zfm, ↓Zfn, ↓Zfo, ↓Zfp, ↓Zfq, ↓Zfr, ↓Zfs, ↓Zft, ↓Zfu, ↓Zfv, ↓Zfw, ↓Zfx, ↓Zfy, ↓Zfz, ↓Zga, ↓Zgb, ↓Zgc, ↓Zgd, ↓Zge, ↓Zgf, ↓Zgg, ↓Zgh, ↓Zgi, ↓Zgj, ↓Zgk, ↓Zgl, ↓Zgm, ↓Zgn, ↓Zgo, ↓Zgp, ↓Zgq, ↓Zgr, ↓Zgs, ↓Zgt, ↓Zgu, ↓Zgv, ↓Zgw, ↓Zgx, ↓Zgy, ↓Zgz, ↓Zha, ↓Zhb, ↓Zhc, ↓Zhd, ↓Zhe, ↓Zhf, ↓Zhg, ↓Zhh, ↓Zhi, ↓Zhj, ↓Zhk, ↓Zhl, ↓Zhm, ↓Zhn, ↓Zho, ↓Zhp, ↓Zhq, ↓Zhr, ↓Zhs, ↓Zht, ↓Zhu, ↓Zhv, ↓Zhw, ↓Zhx, ↓Zhy, ↓Zhz, ↓Zia, ↓Zib, ↓Zic, ↓Zid, ↓Zie, ↓Zif, ↓Zig, ↓Zih, ↓Zii, ↓Zij, ↓Zik, reduceIte, if_true, if_false, Bool.false_eq_true, Bool.and_true, Bool.true_and, Bool.and_false, Bool.false_and, Bool.or_true, Bool.true_or, Bool.or_false, Bool.false_or, Int.cast_ofNat_Int, Zil, Zim, beq_self_eq_true, Int.reduceBEq, Int.reduceLT, Int.reduceLE, Int.reduceEq, Int.reduceNeg, Nat.reduceLT, Zin, Zio, Ziq, Zir, Zis, Zit, Ziu, Ziv, Ziw, Zix, Ziy, Ziz, Zja, Zjb, Zjc, Zjd, Zje, Zjf, Zjg, Zjh, Zji, Zjj, Zjk, Zjl, Zjm, Zjn, Zjo, Zjp, Zjq, Zjr, Zjs, Zjt, Zju, Zjv, Zjw, Zjx, Zjy, Zjz, Zka, Zkb, Zkc, Zkd, Zke, Zkf, Zkg, Zkh, Zki, Zkj, Zkk, Zkl, Zkm, Zkn, Zko, Zkp, List.lookup_nil, Zkq, Zkr, Option.map_some, Option.map_none, Option.bind_some, Option.bind_none, List.map_nil, List.map_cons, List.nil_append, List.cons_append, List.append_nil, List.length_cons, List.length_nil, Nat.reduceAdd, Nat.reduceLeDiff, Nat.reduceEqDiff, Nat.reduceBEq, decide_true, decide_false, Bool.not_true, Bool.not_false, Zks, Zkt, Zku, Zkv, Zkw, Zkx, Zky, Zkz, Zla, Zlb, Zlc, Zld, Zle, Zlf, List.getElem?_cons_zero, List.getElem?_cons_succ, Zlg, Zlh, Zli, Zlj, Zlk, Zll, Zlm, Zln, Zlo, Zlp, Zlq, Zlr, Zls, Zlt, Zlu, Zlv, Zlw, Zlx, Zly, setX, Zlz, Zma, Zmb, Int.ofNat_lt, Int.ofNat_le, l_sml, vec_len, q]
        exact ⟨_, _, _, by rw [← fin], .val, .val, .val⟩
      · have e3 : drawn rs w i j = sml (rs.getD (2 + 2 * (i * w + j)) 0) (rs.getD (3 + 2 * (i * w + j)) 0) := by unfold drawn; rw [if_neg (by rw [hc]; decide)]
        rw [e3] at fin
        simp -implicitDefEqProofs -dsimp only [↓Zaa, ↓Zab, ↓Zac, ↓Zad, ↓Zae, ↓Zaf, ↓Zag, ↓Zah, ↓Zai, ↓Zaj, ↓Zak, ↓Zal, ↓Zam, ↓Zan, ↓Zao, ↓Zap, ↓Zaq, ↓Zar, ↓Zas, ↓Zat, ↓Zau, ↓Zav, ↓Zaw, ↓Zax, ↓Zay, ↓Zaz, ↓Zba, ↓Zbb, ↓Zbc, ↓Zbd, ↓Zbe, ↓Zbf, ↓Zbg, ↓Zbh, ↓Zbi, ↓Zbj, ↓Zbk, ↓Zbl, ↓Zbm, ↓Zbn, ↓Zbo, ↓Zbp, ↓Zbq, ↓Zbr, ↓Zbs, ↓Zbt, ↓Zbu, ↓Zbv, ↓Zbw, ↓Zbx, ↓Zby, ↓Zbz, ↓Zca, ↓Zcb, ↓Zcc, ↓Zcd, ↓Zce, ↓Zcf, ↓Zcg, ↓Zch, ↓Zci, ↓Zcj, ↓Zck, ↓Zcl, ↓Zcm, ↓Zcn, ↓Zco, ↓Zcp, ↓Zcq, ↓Zcr, ↓Zcs, ↓Zct, ↓Zcu, ↓Zcv, ↓Zcw, ↓Zcx, ↓Zcy, ↓Zcz, ↓Zda, ↓Zdb, ↓Zdc, ↓Zdd, ↓Zde, ↓Zdf, ↓Zdg, ↓Zdh, ↓Zdi, ↓Zdj, ↓Zdk, ↓Zdl, ↓Zdm, ↓Zdn, ↓Zdo, ↓Zdp, ↓Zdq, ↓Zdr, ↓Zds, ↓Zdt, ↓Zdu, ↓Zdv, ↓Zdw, ↓Zdx, ↓Zdy, ↓Zdz, ↓Zea, ↓Zeb, ↓Zec, ↓Zed, ↓Zee, ↓Zef, ↓Zeg, ↓Zeh, ↓Zei, ↓Zej, ↓Zek, ↓Zel, ↓Zem, ↓Zen, ↓Zeo, ↓Zep, ↓Zeq, ↓Zer, ↓Zes, ↓Zet, ↓Zeu, ↓Zev, ↓Zew, ↓Zex, ↓Zey, ↓Zez, ↓Zfa, ↓Zfb, ↓Zfc, ↓Zfd, ↓Zfe, ↓Zff, ↓Zfg, ↓Zfh, ↓Zfi, ↓Zfj, ↓Zfk, ↓Zfl, ↓Zfm, ↓Zfn, ↓Zfo, ↓Zfp, ↓Zfq, ↓Zfr, ↓Zfs, ↓Zft, ↓Zfu, ↓Zfv, ↓Zfw, ↓Zfx, ↓Zfy, ↓Zfz, ↓Zga, ↓Zgb, ↓Zgc, ↓Zgd, ↓Zge, ↓Zgf, ↓Zgg, ↓Zgh, ↓Zgi, ↓Zgj, ↓Zgk, ↓Zgl, ↓Zgm, ↓Zgn, ↓Zgo, ↓Zgp, ↓Zgq, ↓Zgr, ↓Zgs, ↓Zgt, ↓Zgu, ↓Zgv, ↓Zgw, ↓Zgx, ↓Zgy, ↓Zgz, ↓Zha, ↓Zhb, ↓Zhc, ↓Zhd, ↓Zhe, ↓Zhf, ↓Zhg, ↓Zhh, ↓Zhi, ↓Zhj, ↓Zhk, ↓Zhl, ↓Zhm, ↓Zhn, ↓Zho, ↓Zhp, ↓Zhq, ↓Zhr, ↓Zhs, ↓Zht, ↓Zhu, ↓Zhv, ↓Zhw, ↓Zhx, ↓Zhy, ↓Zhz, ↓Zia, ↓Zib, ↓Zic, ↓Zid, ↓Zie, ↓Zif, ↓Zig, ↓Zih, ↓Zii, ↓Zij, ↓Zik, reduceIte, if_true, if_false, Bool.false_eq_true, Bool.and_true, Bool.true_and, Bool.and_false, Bool.false_and, Bool.or_true, Bool.true_or, Bool.or_false, Bool.false_or, Int.cast_ofNat_Int, Zil, Zim, beq_self_eq_true, Int.reduceBEq, Int.reduceLT, Int.reduceLE, Int.reduceEq, Int.reduceNeg, Nat.reduceLT, Zin, Zio, Ziq, Zir, Zis, Zit, Ziu, Ziv, Ziw, Zix, Ziy, Ziz, Zja, Zjb, Zjc, Zjd, Zje, Zjf, Zjg, Zjh, Zji, Zjj, Zjk, Zjl, Zjm, Zjn, Zjo, Zjp, Zjq, Zjr, Zjs, Zjt, Zju, Zjv, Zjw, Zjx, Zjy, Zjz, Zka, Zkb, Zkc, Zkd, Zke, Zkf, Zkg, Zkh, Zki, Zkj, Zkk, Zkl, Zkm, Zkn, Zko, Zkp, List.lookup_nil, Zkq, Zkr, Option.map_some, Option.map_none, Option.bind_some, Option.bind_none, List.map_nil, List.map_cons, List.nil_append, List.cons_append, List.append_nil, List.length_cons, List.length_nil, Nat.reduceAdd, Nat.reduceLeDiff, Nat.reduceEqDiff, Nat.reduceBEq, decide_true, decide_false, Bool.not_true, Bool.not_false, Zks, Zkt, Zku, Zkv, Zkw, Zkx, Zky, Zkz, Zla, Zlb, Zlc, Zld, Zle, Zlf, List.getElem?_cons_zero, List.getElem?_cons_succ, Zlg, Zlh, Zli, Zlj, Zlk, Zll, Zlm, Zln, Zlo, Zlp, Zlq, Zlr, Zls, Zlt, Zlu, Zlv, Zlw, Zlx, Zly, setX, Zlz, Zma, Zmb, Int.ofNat_lt, Int.ofNat_le, l_sml, vec_len, q]
        exact ⟨_, _, _, by rw [← fin], .val, .val, .val⟩
    · rintro e ⟨x8, x9, x10, rfl, y8, y9, y10⟩
      have q : i < 16777216 := by omega
      simp -implicitDefEqProofs -dsimp only [↓Zaa, ↓Zab, ↓Zac, ↓Zad, ↓Zae, ↓Zaf, ↓Zag, ↓Zah, ↓Zai, ↓Zaj, ↓Zak, ↓Zal, ↓Zam, ↓Zan, ↓Zao, ↓Zap, ↓Zaq, ↓Zar, ↓Zas, ↓Zat, ↓Zau, ↓Zav, ↓Zaw, ↓Zax, ↓Zay, ↓Zaz, ↓Zba, ↓Zbb, ↓Zbc, ↓Zbd, ↓Zbe, ↓Zbf, ↓Zbg, ↓Zbh, ↓Zbi, ↓Zbj, ↓Zbk, ↓Zbl, ↓Zbm, ↓Zbn, ↓Zbo, ↓Zbp, ↓Zbq, ↓Zbr, ↓Zbs, ↓Zbt, ↓Zbu, ↓Zbv, ↓Zbw, ↓Zbx, ↓Zby, ↓Zbz, ↓Zca, ↓Zcb, ↓Zcc, ↓Zcd, ↓Zce, ↓Zcf, ↓Zcg, ↓Zch, ↓Zci, ↓Zcj, ↓Zck, ↓Zcl, ↓Zcm, ↓Zcn, ↓Zco, ↓Zcp, ↓Zcq, ↓Zcr, ↓Zcs, ↓Zct, ↓Zcu, ↓Zcv, ↓Zcw, ↓Zcx, ↓Zcy, ↓Zcz, ↓Zda, ↓Zdb, ↓Zdc, ↓Zdd, ↓Zde, ↓Zdf, ↓Zdg, ↓Zdh, ↓Zdi, ↓Zdj, ↓Zdk, ↓Zdl, ↓Zdm, ↓Zdn, ↓Zdo, ↓Zdp, ↓Zdq, ↓Zdr, ↓Zds, ↓Zdt, ↓Zdu, ↓Zdv, ↓Zdw, ↓Zdx, ↓Zdy, ↓Zdz, ↓Zea, ↓Zeb, ↓Zec, ↓Zed, ↓Zee, ↓Zef, ↓Zeg, ↓Zeh, ↓Zei, ↓Zej, ↓Zek, ↓Zel, ↓Zem, ↓Zen, ↓Zeo, ↓Zep, ↓Zeq, ↓Zer, ↓Zes, ↓Zet, ↓Zeu, ↓Zev, ↓Zew, ↓Zex, ↓Zey, ↓Zez, ↓Zfa, ↓Zfb, ↓Zfc, ↓Zfd, ↓Zfe, ↓Zff, ↓Zfg, ↓Zfh, ↓Zfi, ↓Zfj, ↓Zfk, ↓Zfl, ↓Zfm, ↓Zfn, ↓Zfo, ↓Zfp, ↓Zfq, ↓Zfr, ↓Zfs, ↓Zft, ↓Zfu, ↓Zfv, ↓Zfw, ↓Zfx, ↓Zfy, ↓Zfz, ↓Zga, ↓Zgb, ↓Zgc, ↓Zgd, ↓Zge, ↓Zgf, ↓Zgg, ↓Zgh, ↓Zgi, ↓Zgj, ↓Zgk, ↓Zgl, ↓Zgm, ↓Zgn, ↓Zgo, ↓Zgp, ↓Zgq, ↓Zgr, ↓Zgs, ↓Zgt, ↓Zgu, ↓Zgv, ↓Zgw, ↓Zgx, ↓Zgy, ↓Zgz, ↓Zha, ↓Zhb, ↓Zhc, ↓Zhd, ↓Zhe, ↓Zhf, ↓Zhg, ↓Zhh, ↓Zhi, ↓Zhj, ↓Zhk, ↓Zhl, ↓Zhm, ↓Zhn, ↓Zho, ↓Zhp, ↓Zhq, ↓Zhr, ↓Zhs, ↓Zht, ↓Zhu, ↓Zhv, ↓Zhw, ↓Zhx, ↓Zhy, ↓Zhz, ↓Zia, ↓Zib, ↓Zic, ↓Zid, ↓Zie, ↓Zif, ↓Zig, ↓Zih, ↓Zii, ↓Zij, ↓Zik, reduceIte, if_true, if_false, Bool.false_eq_true, Bool.and_true, Bool.true_and, Bool.and_false, Bool.false_and, Bool.or_true, Bool.true_or, Bool.or_false, Bool.false_or, Int.cast_ofNat_Int, Zil, Zim, beq_self_eq_true, Int.reduceBEq, Int.reduceLT, Int.reduceLE, Int.reduceEq, Int.reduceNeg, Nat.reduceLT, Zin, Zio, Ziq, Zir, Zis, Zit, Ziu, Ziv, Ziw, Zix, Ziy, Ziz, Zja, Zjb, Zjc, Zjd, Zje, Zjf, Zjg, Zjh, Zji, Zjj, Zjk, Zjl, Zjm, Zjn, Zjo, Zjp, Zjq, Zjr, Zjs, Zjt, Zju, Zjv, Zjw, Zjx, Zjy, Zjz, Zka, Zkb, Zkc, Zkd, Zke, Zkf, Zkg, Zkh, Zki, Zkj, Zkk, Zkl, Zkm, Zkn, Zko, Zkp, List.lookup_nil, Zkq, Zkr, Option.map_some, Option.map_none, Option.bind_some, Option.bind_none, List.map_nil, List.map_cons, List.nil_append, List.cons_append, List.append_nil, List.length_cons, List.length_nil, Nat.reduceAdd, Nat.reduceLeDiff, Nat.reduceEqDiff, Nat.reduceBEq, decide_true, decide_false, Bool.not_true, Bool.not_false, Zks, Zkt, Zku, Zkv, Zkw, Zkx, Zky, Zkz, Zla, Zlb, Zlc, Zld, Zle, Zlf, List.getElem?_cons_zero, List.getElem?_cons_succ, Zlg, Zlh, Zli, Zlj, Zlk, Zll, Zlm, Zln, Zlo, Zlp, Zlq, Zlr, Zls, Zlt, Zlu, Zlv, Zlw, Zlx, Zly, setX, Zlz, Zma, Zmb, Int.ofNat_lt, Int.ofNat_le, vec_len, q]
      exact ⟨_, _, _, _, _, by rw [vec_succ], .val, .val, y8, y9, y10⟩
  · rintro e ⟨x6, x7, x8, x9, x10, rfl, y6, y7, y8, y9, y10⟩
    simp -implicitDefEqProofs -dsimp only [↓Zaa, ↓Zab, ↓Zac, ↓Zad, ↓Zae, ↓Zaf, ↓Zag, ↓Zah, ↓Zai, ↓Zaj, ↓Zak, ↓Zal, ↓Zam, ↓Zan, ↓Zao, ↓Zap, ↓Zaq, ↓Zar, ↓Zas, ↓Zat, ↓Zau, ↓Zav, ↓Zaw, ↓Zax, ↓Zay, ↓Zaz, ↓Zba, ↓Zbb, ↓Zbc, ↓Zbd, ↓Zbe, ↓Zbf, ↓Zbg, ↓Zbh, ↓Zbi, ↓Zbj, ↓Zbk, ↓Zbl, ↓Zbm, ↓Zbn, ↓Zbo, ↓Zbp, ↓Zbq, ↓Zbr, ↓Zbs, ↓Zbt, ↓Zbu, ↓Zbv, ↓Zbw, ↓Zbx, ↓Zby, ↓Zbz, ↓Zca, ↓Zcb, ↓Zcc, ↓Zcd, ↓Zce, ↓Zcf, ↓Zcg, ↓Zch, ↓Zci, ↓Zcj, ↓Zck, ↓Zcl, ↓Zcm, ↓Zcn, ↓Zco, ↓Zcp, ↓Zcq, ↓Zcr, ↓Zcs, ↓Zct, ↓Zcu, ↓Zcv, ↓Zcw, ↓Zcx, ↓Zcy, ↓Zcz, ↓Zda, ↓Zdb, ↓Zdc, ↓Zdd, ↓Zde, ↓Zdf, ↓Zdg, ↓Zdh, ↓Zdi, ↓Zdj, ↓Zdk, ↓Zdl, ↓Zdm, ↓Zdn, ↓Zdo, ↓Zdp, ↓Zdq, ↓Zdr, ↓Zds, ↓Zdt, ↓Zdu, ↓Zdv, ↓Zdw, ↓Zdx, ↓Zdy, ↓Zdz, ↓Zea, ↓Zeb, ↓Zec, ↓Zed, ↓Zee, ↓Zef, ↓Zeg, ↓Zeh, ↓Zei, ↓Zej, ↓Zek, ↓Zel, ↓Zem, ↓Zen, ↓Zeo, ↓Zep, ↓Zeq, ↓Zer, ↓Zes, ↓Zet, ↓Zeu, ↓Zev, ↓Zew, ↓Zex, ↓Zey, ↓Zez, ↓Zfa, ↓Zfb, ↓Zfc, ↓Zfd, ↓Zfe, ↓Zff, ↓Zfg, ↓Zfh, ↓Zfi, ↓Zfj, ↓Zfk, ↓Zfl, ↓Zfm, ↓Zfn, ↓Zfo, ↓Zfp, ↓Zfq, ↓Zfr, ↓Zfs, ↓Zft, ↓Zfu, ↓Zfv, ↓Zfw, ↓Zfx, ↓Zfy, ↓Zfz, ↓Zga, ↓Zgb, ↓Zgc, ↓Zgd, ↓Zge, ↓Zgf, ↓Zgg, ↓Zgh, ↓Zgi, ↓Zgj, ↓Zgk, ↓Zgl, ↓Zgm, ↓Zgn, ↓Zgo, ↓Zgp, ↓Zgq, ↓Zgr, ↓Zgs, ↓Zgt, ↓Zgu, ↓Zgv, ↓Zgw, ↓Zgx, ↓Zgy, ↓Zgz, ↓Zha, ↓Zhb, ↓Zhc, ↓Zhd, ↓Zhe, ↓Zhf, ↓Zhg, ↓Zhh, ↓Zhi, ↓Zhj, ↓Zhk, ↓Zhl, ↓Zhm, ↓Zhn, ↓Zho, ↓Zhp, ↓Zhq, ↓Zhr, ↓Zhs, ↓Zht, ↓Zhu, ↓Zhv, ↓Zhw, ↓Zhx, ↓Zhy, ↓Zhz, ↓Zia, ↓Zib, ↓Zic, ↓Zid, ↓Zie, ↓Zif, ↓Zig, ↓Zih, ↓Zii, ↓Zij, ↓Zik, reduceIte, if_true, if_false, Bool.false_eq_true, Bool.and_true, Bool.true_and, Bool.and_false, Bool.false_and, Bool.or_true, Bool.true_or, Bool.or_false, Bool.false_or, Int.cast_ofNat_Int, Zil, Zim, beq_self_eq_true, Int.reduceBEq, Int.reduceLT, Int.reduceLE, Int.reduceEq, Int.reduceNeg, Nat.reduceLT, Zin, Zio, Ziq, Zir, Zis, Zit, Ziu, Ziv, Ziw, Zix, Ziy, Ziz, Zja, Zjb, Zjc, Zjd, Zje, Zjf, Zjg, Zjh, Zji, Zjj, Zjk, Zjl, Zjm, Zjn, Zjo, Zjp, Zjq, Zjr, Zjs, Zjt, Zju, Zjv, Zjw, Zjx, Zjy, Zjz, Zka, Zkb, Zkc, Zkd, Zke, Zkf, Zkg, Zkh, Zki, Zkj, Zkk, Zkl, Zkm, Zkn, Zko, Zkp, List.lookup_nil, Zkq, Zkr, Option.map_some, Option.map_none, Option.bind_some, Option.bind_none, List.map_nil, List.map_cons, List.nil_append, List.cons_append, List.append_nil, List.length_cons, List.length_nil, Nat.reduceAdd, Nat.reduceLeDiff, Nat.reduceEqDiff, Nat.reduceBEq, decide_true, decide_false, Bool.not_true, Bool.not_false, Zks, Zkt, Zku, Zkv, Zkw, Zkx, Zky, Zkz, Zla, Zlb, Zlc, Zld, Zle, Zlf, List.getElem?_cons_zero, List.getElem?_cons_succ, Zlg, Zlh, Zli, Zlj, Zlk, Zll, Zlm, Zln, Zlo, Zlp, Zlq, Zlr, Zls, Zlt, Zlu, Zlv, Zlw, Zlx, Zly, setX, Zlz, Zma, Zmb, Int.ofNat_lt, Int.ofNat_le]
    refine iteK_dec (fun hc => ?_) (fun hc => ?_)
    · simp -implicitDefEqProofs -dsimp only [↓Zaa, ↓Zab, ↓Zac, ↓Zad, ↓Zae, ↓Zaf, ↓Zag, ↓Zah, ↓Zai, ↓Zaj, ↓Zak, ↓Zal, ↓Zam, ↓Zan, ↓Zao, ↓Zap, ↓Zaq, ↓Zar, ↓Zas, ↓Zat, ↓Zau, ↓Zav, ↓Zaw, ↓Zax, ↓Zay, ↓Zaz, ↓Zba, ↓Zbb, ↓Zbc, ↓Zbd, ↓Zbe, ↓Zbf, ↓Zbg, ↓Zbh, ↓Zbi, ↓Zbj, ↓Zbk, ↓Zbl, ↓Zbm, ↓Zbn, ↓Zbo, ↓Zbp, ↓Zbq, ↓Zbr, ↓Zbs, ↓Zbt, ↓Zbu, ↓Zbv, ↓Zbw, ↓Zbx, ↓Zby, ↓Zbz, ↓Zca, ↓Zcb, ↓Zcc, ↓Zcd, ↓Zce, ↓Zcf, ↓Zcg, ↓Zch, ↓Zci, ↓Zcj, ↓Zck, ↓Zcl, ↓Zcm, ↓Zcn, ↓Zco, ↓Zcp, ↓Zcq, ↓Zcr, ↓Zcs, ↓Zct, ↓Zcu, ↓Zcv, ↓Zcw, ↓Zcx, ↓Zcy, ↓Zcz, ↓Zda, ↓Zdb, ↓Zdc, ↓Zdd, ↓Zde, ↓Zdf, ↓Zdg, ↓Zdh, ↓Zdi, ↓Zdj, ↓Zdk, ↓Zdl, ↓Zdm, ↓Zdn, ↓Zdo, ↓Zdp, ↓Zdq, ↓Zdr, ↓Zds, ↓Zdt, ↓Zdu, ↓Zdv, ↓Zdw, ↓Zdx, ↓Zdy, ↓Zdz, ↓Zea, ↓Zeb, ↓Zec, ↓Zed, ↓Zee, ↓Zef, ↓Zeg, ↓Zeh, ↓Zei, ↓Zej, ↓Zek, ↓Zel, ↓Zem, ↓Zen, ↓Zeo, ↓Zep, ↓Zeq, ↓Zer, ↓Zes, ↓Zet, ↓Zeu, ↓Zev, ↓Zew, ↓Zex, ↓Zey, ↓Zez, ↓Zfa, ↓Zfb, ↓Zfc, ↓Zfd, ↓Zfe, ↓Zff, ↓Zfg, ↓Zfh, ↓Zfi, ↓Zfj, ↓Zfk, ↓Zfl, ↓Zfm, ↓Zfn, ↓Zfo, ↓Zfp, ↓Zfq, ↓Zfr, ↓Zfs, ↓Zft, ↓Zfu, ↓Zfv, ↓Zfw, ↓Zfx, ↓Zfy, ↓Zfz, ↓Zga, ↓Zgb, ↓Zgc, ↓Zgd, ↓Zge, ↓Zgf, ↓Zgg, ↓Zgh, ↓Zgi, ↓Zgj, ↓Zgk, ↓Zgl, ↓Zgm, ↓Zgn, ↓Zgo, ↓Zgp, ↓Zgq, ↓Zgr, ↓Zgs, ↓Zgt, ↓Zgu, ↓Zgv, ↓Zgw, ↓Zgx, ↓Zgy, ↓Zgz, ↓Zha, ↓Zhb, ↓Zhc, ↓Zhd, ↓Zhe, ↓Zhf, ↓Zhg, ↓Zhh, ↓Zhi, ↓Zhj, ↓Zhk, ↓Zhl, ↓Zhm, ↓Zhn, ↓Zho, ↓Zhp, ↓Zhq, ↓Zhr, ↓Zhs, ↓Zht, ↓Zhu, ↓Zhv, ↓Zhw, ↓Zhx, ↓Zhy, ↓Zhz, ↓Zia, ↓Zib, ↓Zic, ↓Zid, ↓Zie, ↓Zif, ↓Zig, ↓Zih, ↓Zii, ↓Zij, ↓Zik, reduceIte, if_true, if_false, Bool.false_eq_true, Bool.and_true, Bool.true_and, Bool.and_false, Bool.false_and, Bool.or_true, Bool.true_or, Bool.or_false, Bool.false_or, Int.cast_ofNat_Int, Zil, Zim, beq_self_eq_true, Int.reduceBEq, Int.reduceLT, Int.reduceLE, Int.reduceEq, Int.reduceNeg, Nat.reduceLT, Zin, Zio, Ziq, Zir, Zis, Zit, Ziu, Ziv, Ziw, Zix, Ziy, Ziz, Zja, Zjb, Zjc, Zjd, Zje, Zjf, Zjg, Zjh, Zji, Zjj, Zjk, Zjl, Zjm, Zjn, Zjo, Zjp, Zjq, Zjr, Zjs, Zjt, Zju, Zjv, Zjw, Zjx, Zjy, Zjz, Zka, Zkb, Zkc, Zkd, Zke, Zkf, Zkg, Zkh, Zki, Zkj, Zkk, Zkl, Zkm, Zkn, Zko, Zkp, List.lookup_nil, Zkq, Zkr, Option.map_some, Option.map_none, Option.bind_some, Option.bind_none, List.map_nil, List.map_cons, List.nil_append, List.cons_append, List.append_nil, List.length_cons, List.length_nil, Nat.reduceAdd, Nat.reduceLeDiff, Nat.reduceEqDiff, Nat.reduceBEq, decide_true, decide_false, Bool.not_true, Bool.not_false, Zks, Zkt, Zku, Zkv, Zkw, Zkx, Zky, Zkz, Zla, Zlb, Zlc, Zld, Zle, Zlf, List.getElem?_cons_zero, List.getElem?_cons_succ, Zlg, Zlh, Zli, Zlj, Zlk, Zll, Zlm, Zln, Zlo, Zlp, Zlq, Zlr, Zls, Zlt, Zlu, Zlv, Zlw, Zlx, Zly, setX, Zlz, Zma, Zmb, Int.ofNat_lt, Int.ofNat_le, at1, mod_ii (show (0 : Int) < 3 by decide)]
      refine iteK_by (fun hd => ?_) (fun hd => ?_)
      · have h0 : 0 < h := by omega
        have e4 : (h : Int) - 1 = ((h - 1 : Nat) : Int) := by omega
        have e5 : atI (vec h fun i => rowP w (drawn rs w i)) 0 = some (rowP w (drawn rs w 0)) := vec_atI (k := 0) h0
        simp -implicitDefEqProofs -dsimp only [↓Zaa, ↓Zab, ↓Zac, ↓Zad, ↓Zae, ↓Zaf, ↓Zag, ↓Zah, ↓Zai, ↓Zaj, ↓Zak, ↓Zal, ↓Zam, ↓Zan, ↓Zao, ↓Zap, ↓Zaq, ↓Zar, ↓Zas, ↓Zat, ↓Zau, ↓Zav, ↓Zaw, ↓Zax, ↓Zay, ↓Zaz, ↓Zba, ↓Zbb, ↓Zbc, ↓Zbd, ↓Zbe, ↓Zbf, ↓Zbg, ↓Zbh, ↓Zbi, ↓Zbj, ↓Zbk, ↓Zbl, ↓Zbm, ↓Zbn, ↓Zbo, ↓Zbp, ↓Zbq, ↓Zbr, ↓Zbs, ↓Zbt, ↓Zbu, ↓Zbv, ↓Zbw, ↓Zbx, ↓Zby, ↓Zbz, ↓Zca, ↓Zcb, ↓Zcc, ↓Zcd, ↓Zce, ↓Zcf, ↓Zcg, ↓Zch, ↓Zci, ↓Zcj, ↓Zck, ↓Zcl, ↓Zcm, ↓Zcn, ↓Zco, ↓Zcp, ↓Zcq, ↓Zcr, ↓Zcs, ↓Zct, ↓Zcu, ↓Zcv, ↓Zcw, ↓Zcx, ↓Zcy, ↓Zcz, ↓Zda, ↓Zdb, ↓Zdc, ↓Zdd, ↓Zde, ↓Zdf, ↓Zdg, ↓Zdh, ↓Zdi, ↓Zdj, ↓Zdk, ↓Zdl, ↓Zdm, ↓Zdn, ↓Zdo, ↓Zdp, ↓Zdq, ↓Zdr, ↓Zds, ↓Zdt, ↓Zdu, ↓Zdv, ↓Zdw, ↓Zdx, ↓Zdy, ↓Zdz, ↓Zea, ↓Zeb, ↓Zec, ↓Zed, ↓Zee, ↓Zef, ↓Zeg, ↓Zeh, ↓Zei, ↓Zej, ↓Zek, ↓Zel, ↓Zem, ↓Zen, ↓Zeo, ↓Zep, ↓Zeq, ↓Zer, ↓Zes, ↓Zet, ↓Zeu, ↓Zev, ↓Zew, ↓Zex, ↓Zey, ↓Zez, ↓Zfa, ↓Zfb, ↓Zfc, ↓Zfd, ↓Zfe, ↓Zff, ↓Zfg, ↓Zfh, ↓Zfi, ↓Zfj, ↓Zfk, ↓Zfl, ↓Zfm, ↓Zfn, ↓Zfo, ↓Zfp, ↓Zfq, ↓Zfr, ↓Zfs, ↓Zft, ↓Zfu, ↓Zfv, ↓Zfw, ↓Zfx, ↓Zfy, ↓Zfz, ↓Zga, ↓Zgb, ↓Zgc, ↓Zgd, ↓Zge, ↓Zgf, ↓Zgg, ↓Zgh, ↓Zgi, ↓Zgj, ↓Zgk, ↓Zgl, ↓Zgm, ↓Zgn, ↓Zgo, ↓Zgp, ↓Zgq, ↓Zgr, ↓Zgs, ↓Zgt, ↓Zgu, ↓Zgv, ↓Zgw, ↓Zgx, ↓Zgy, ↓Zgz, ↓Zha, ↓Zhb, ↓Zhc, ↓Zhd, ↓Zhe, ↓Zhf, ↓Zhg, ↓Zhh, ↓Zhi, ↓Zhj, ↓Zhk, ↓Zhl, ↓Zhm, ↓Zhn, ↓Zho, ↓Zhp, ↓Zhq, ↓Zhr, ↓Zhs, ↓Zht, ↓Zhu, ↓Zhv, ↓Zhw, ↓Zhx, ↓Zhy, ↓Zhz, ↓Zia, ↓Zib, ↓Zic, ↓Zid, ↓Zie, ↓Zif, ↓Zig, ↓Zih, ↓Zii, ↓Zij, ↓Zik, reduceIte, if_true, if_false, Bool.false_eq_true, Bool.and_true, Bool.true_and, Bool.and_false, Bool.false_and, Bool.or_true, Bool.true_or, Bool.or_false, Bool.false_or, Int.cast_ofNat_Int, Zil, Zim, beq_self_eq_true, Int.reduceBEq, Int.reduceLT, Int.reduceLE, Int.reduceEq, Int.reduceNeg, Nat.reduceLT, Zin, Zio, Ziq, Zir, Zis, Zit, Ziu, Ziv, Ziw, Zix, Ziy, Ziz, Zja, Zjb, Zjc, Zjd, Zje, Zjf, Zjg, Zjh, Zji, Zjj, Zjk, Zjl, Zjm, Zjn, Zjo, Zjp, Zjq, Zjr, Zjs, Zjt, Zju, Zjv, Zjw, Zjx, Zjy, Zjz, Zka, Zkb, Zkc, Zkd, Zke, Zkf, Zkg, Zkh, Zki, Zkj, Zkk, Zkl, Zkm, Zkn, Zko, Zkp, List.lookup_nil, Zkq, Zkr, Option.map_some, Option.map_none, Option.bind_some, Option.bind_none, List.map_nil, List.map_cons, List.nil_append, List.cons_append, List.append_nil, List.length_cons, List.length_nil, Nat.reduceAdd, Nat.reduceLeDiff, Nat.reduceEqDiff, Nat.reduceBEq, decide_true, decide_false, Bool.not_true, Bool.not_false, Zks, Zkt, Zku, Zkv, Zkw, Zkx, Zky, Zkz, Zla, Zlb, Zlc, Zld, Zle, Zlf, List.getElem?_cons_zero, List.getElem?_cons_succ, Zlg, Zlh, Zli, Zlj, Zlk, Zll, Zlm, Zln, Zlo, Zlp, Zlq, Zlr, Zls, Zlt, Zlu, Zlv, Zlw, Zlx, Zly, setX, Zlz, Zma, Zmb, Int.ofNat_lt, Int.ofNat_le, e4, e5, vec_len, ixN_nat (show h - 1 < h by omega), vec_set]
        congr 4
        funext i
        by_cases hz : i = h - 1
        · rw [if_pos hz, if_pos (by rw [hd, decide_eq_true hc, decide_eq_true hz]; rfl)]
        · rw [if_neg hz, if_neg (by simp [hz])]
      · simp -implicitDefEqProofs -dsimp only [↓Zaa, ↓Zab, ↓Zac, ↓Zad, ↓Zae, ↓Zaf, ↓Zag, ↓Zah, ↓Zai, ↓Zaj, ↓Zak, ↓Zal, ↓Zam, ↓Zan, ↓Zao, ↓Zap, ↓Zaq, ↓Zar, ↓Zas, ↓Zat, ↓Zau, ↓Zav, ↓Zaw, ↓Zax, ↓Zay, ↓Zaz, ↓Zba, ↓Zbb, ↓Zbc, ↓Zbd, ↓Zbe, ↓Zbf, ↓Zbg, ↓Zbh, ↓Zbi, ↓Zbj, ↓Zbk, ↓Zbl, ↓Zbm, ↓Zbn, ↓Zbo, ↓Zbp, ↓Zbq, ↓Zbr, ↓Zbs, ↓Zbt, ↓Zbu, ↓Zbv, ↓Zbw, ↓Zbx, ↓Zby, ↓Zbz, ↓Zca, ↓Zcb, ↓Zcc, ↓Zcd, ↓Zce, ↓Zcf, ↓Zcg, ↓Zch, ↓Zci, ↓Zcj, ↓Zck, ↓Zcl, ↓Zcm, ↓Zcn, ↓Zco, ↓Zcp, ↓Zcq, ↓Zcr, ↓Zcs, ↓Zct, ↓Zcu, ↓Zcv, ↓Zcw, ↓Zcx, ↓Zcy, ↓Zcz, ↓Zda, ↓Zdb, ↓Zdc, ↓Zdd, ↓Zde, ↓Zdf, ↓Zdg, ↓Zdh, ↓Zdi, ↓Zdj, ↓Zdk, ↓Zdl, ↓Zdm, ↓Zdn, ↓Zdo, ↓Zdp, ↓Zdq, ↓Zdr, ↓Zds, ↓Zdt, ↓Zdu, ↓Zdv, ↓Zdw, ↓Zdx, ↓Zdy, ↓Zdz, ↓Zea, ↓Zeb, ↓Zec, ↓Zed, ↓Zee, ↓Zef, ↓Zeg, ↓Zeh, ↓Zei, ↓Zej, ↓Zek, ↓Zel, ↓Zem, ↓Zen, ↓Zeo, ↓Zep, ↓Zeq, ↓Zer, ↓Zes, ↓Zet, ↓Zeu, ↓Zev, ↓Zew, ↓Zex, ↓Zey, ↓Zez, ↓Zfa, ↓Zfb, ↓Zfc, ↓Zfd, ↓Zfe, ↓Zff, ↓Zfg, ↓Zfh, ↓Zfi, ↓Zfj, ↓Zfk, ↓Zfl, ↓Zfm, ↓Zfn, ↓Zfo, ↓Zfp, ↓Zfq, ↓Zfr, ↓Zfs, ↓Zft, ↓Zfu, ↓Zfv, ↓Zfw, ↓Zfx, ↓Zfy, ↓Zfz, ↓Zga, ↓Zgb, ↓Zgc, ↓Zgd, ↓Zge, ↓Zgf, ↓Zgg, ↓Zgh, ↓Zgi, ↓Zgj, ↓Zgk, ↓Zgl, ↓Zgm, ↓Zgn, ↓Zgo, ↓Zgp, ↓Zgq, ↓Zgr, ↓Zgs, ↓Zgt, ↓Zgu, ↓Zgv, ↓Zgw, ↓Zgx, ↓Zgy, ↓Zgz, ↓Zha, ↓Zhb, ↓Zhc, ↓Zhd, ↓Zhe, ↓Zhf, ↓Zhg, ↓Zhh, ↓Zhi, ↓Zhj, ↓Zhk, ↓Zhl, ↓Zhm, ↓Zhn, ↓Zho, ↓Zhp, ↓Zhq, ↓Zhr, ↓Zhs, ↓Zht, ↓Zhu, ↓Zhv, ↓Zhw, ↓Zhx, ↓Zhy, ↓Zhz, ↓Zia, ↓Zib, ↓Zic, ↓Zid, ↓Zie, ↓Zif, ↓Zig, ↓Zih, ↓Zii, ↓Zij, ↓Zik, reduceIte, if_true, if_false, Bool.false_eq_true, Bool.and_true, Bool.true_and, Bool.and_false, Bool.false_and, Bool.or_true, Bool.true_or, Bool.or_false, Bool.false_or, Int.cast_ofNat_Int, Zil, Zim, beq_self_eq_true, Int.reduceBEq, Int.reduceLT, Int.reduceLE, Int.reduceEq, Int.reduceNeg, Nat.reduceLT, Zin, Zio, Ziq, Zir, Zis, Zit, Ziu, Ziv, Ziw, Zix, Ziy, Ziz, Zja, Zjb, Zjc, Zjd, Zje, Zjf, Zjg, Zjh, Zji, Zjj, Zjk, Zjl, Zjm, Zjn, Zjo, Zjp, Zjq, Zjr, Zjs, Zjt, Zju, Zjv, Zjw, Zjx, Zjy, Zjz, Zka, Zkb, Zkc, Zkd, Zke, Zkf, Zkg, Zkh, Zki, Zkj, Zkk, Zkl, Zkm, Zkn, Zko, Zkp, List.lookup_nil, Zkq, Zkr, Option.map_some, Option.map_none, Option.bind_some, Option.bind_none, List.map_nil, List.map_cons, List.nil_append, List.cons_append, List.append_nil, List.length_cons, List.length_nil, Nat.reduceAdd, Nat.reduceLeDiff, Nat.reduceEqDiff, Nat.reduceBEq, decide_true, decide_false, Bool.not_true, Bool.not_false, Zks, Zkt, Zku, Zkv, Zkw, Zkx, Zky, Zkz, Zla, Zlb, Zlc, Zld, Zle, Zlf, List.getElem?_cons_zero, List.getElem?_cons_succ, Zlg, Zlh, Zli, Zlj, Zlk, Zll, Zlm, Zln, Zlo, Zlp, Zlq, Zlr, Zls, Zlt, Zlu, Zlv, Zlw, Zlx, Zly, setX, Zlz, Zma, Zmb, Int.ofNat_lt, Int.ofNat_le]
        congr 4
        funext i
        rw [if_neg (by rw [hd]; simp)]
    · simp -implicitDefEqProofs -dsimp only [↓Zaa, ↓Zab, ↓Zac, ↓Zad, ↓Zae, ↓Zaf, ↓Zag, ↓Zah, ↓Zai, ↓Zaj, ↓Zak, ↓Zal, ↓Zam, ↓Zan, ↓Zao, ↓Zap, ↓Zaq, ↓Zar, ↓Zas, ↓Zat, ↓Zau, ↓Zav, ↓Zaw, ↓Zax, ↓Zay, ↓Zaz, ↓Zba, ↓Zbb, ↓Zbc, ↓Zbd, ↓Zbe, ↓Zbf, ↓Zbg, ↓Zbh, ↓Zbi, ↓Zbj, ↓Zbk, ↓Zbl, ↓Zbm, ↓Zbn, ↓Zbo, ↓Zbp, ↓Zbq, ↓Zbr, ↓Zbs, ↓Zbt, ↓Zbu, ↓Zbv, ↓Zbw, ↓Zbx, ↓Zby, ↓Zbz, ↓Zca, ↓Zcb, ↓Zcc, ↓Zcd, ↓Zce, ↓Zcf, ↓Zcg, ↓Zch, ↓Zci, ↓Zcj, ↓Zck, ↓Zcl, ↓Zcm, ↓Zcn, ↓Zco, ↓Zcp, ↓Zcq, ↓Zcr, ↓Zcs, ↓Zct, ↓Zcu, ↓Zcv, ↓Zcw, ↓Zcx, ↓Zcy, ↓Zcz, ↓Zda, ↓Zdb, ↓Zdc, ↓Zdd, ↓Zde, ↓Zdf, ↓Zdg, ↓Zdh, ↓Zdi, ↓Zdj, ↓Zdk, ↓Zdl, ↓Zdm, ↓Zdn, ↓Zdo, ↓Zdp, ↓Zdq, ↓Zdr, ↓Zds, ↓Zdt, ↓Zdu, ↓Zdv, ↓Zdw, ↓Zdx, ↓Zdy, ↓Zdz, ↓Zea, ↓Zeb, ↓Zec, ↓Zed, ↓Zee, ↓Zef, ↓Zeg, ↓Zeh, ↓Zei, ↓Zej, ↓Zek, ↓Zel, ↓Zem, ↓Zen, ↓Zeo, ↓Zep, ↓Zeq, ↓Zer, ↓Zes, ↓Zet, ↓Zeu, ↓Zev, ↓Zew, ↓Zex, ↓Zey, ↓Zez, ↓Zfa, ↓Zfb, ↓Zfc, ↓Zfd, ↓Zfe, ↓Zff, ↓Zfg, ↓Zfh, ↓Zfi, ↓Zfj, ↓Zfk, ↓Zfl, ↓Zfm, ↓Zfn, ↓Zfo, ↓Zfp, ↓Zfq, ↓Zfr, ↓Zfs, ↓Zft, ↓Zfu, ↓Zfv, ↓Zfw, ↓Zfx, ↓Zfy, ↓Zfz, ↓Zga, ↓Zgb, ↓Zgc, ↓Zgd, ↓Zge, ↓Zgf, ↓Zgg, ↓Zgh, ↓Zgi, ↓Zgj, ↓Zgk, ↓Zgl, ↓Zgm, ↓Zgn, ↓Zgo, ↓Zgp, ↓Zgq, ↓Zgr, ↓Zgs, ↓Zgt, ↓Zgu, ↓Zgv, ↓Zgw, ↓Zgx, ↓Zgy, ↓Zgz, ↓Zha, ↓Zhb, ↓Zhc, ↓Zhd, ↓Zhe, ↓Zhf, ↓Zhg, ↓Zhh, ↓Zhi, ↓Zhj, ↓Zhk, ↓Zhl, ↓Zhm, ↓Zhn, ↓Zho, ↓Zhp, ↓Zhq, ↓Zhr, ↓Zhs, ↓Zht, ↓Zhu, ↓Zhv, ↓Zhw, ↓Zhx, ↓Zhy, ↓Zhz, ↓Zia, ↓Zib, ↓Zic, ↓Zid, ↓Zie, ↓Zif, ↓Zig, ↓Zih, ↓Zii, ↓Zij, ↓Zik, reduceIte, if_true, if_false, Bool.false_eq_true, Bool.and_true, Bool.true_and, Bool.and_false, Bool.false_and, Bool.or_true, Bool.true_or, Bool.or_false, Bool.false_or, Int.cast_ofNat_Int, Zil, Zim, beq_self_eq_true, Int.reduceBEq, Int.reduceLT, Int.reduceLE, Int.reduceEq, Int.reduceNeg, Nat.reduceLT, Zin, Zio, Ziq, Zir, Zis, Zit, Ziu, Ziv, Ziw, Zix, Ziy, Ziz, Zja, Zjb, Zjc, Zjd, Zje, Zjf, Zjg, Zjh, Zji, Zjj, Zjk, Zjl, Zjm, Zjn, Zjo, Zjp, Zjq, Zjr, Zjs, Zjt, Zju, Zjv, Zjw, Zjx, Zjy, Zjz, Zka, Zkb, Zkc, Zkd, Zke, Zkf, Zkg, Zkh, Zki, Zkj, Zkk, Zkl, Zkm, Zkn, Zko, Zkp, List.lookup_nil, Zkq, Zkr, Option.map_some, Option.map_none, Option.bind_some, Option.bind_none, List.map_nil, List.map_cons, List.nil_append, List.cons_append, List.append_nil, List.length_cons, List.length_nil, Nat.reduceAdd, Nat.reduceLeDiff, Nat.reduceEqDiff, Nat.reduceBEq, decide_true, decide_false, Bool.not_true, Bool.not_false, Zks, Zkt, Zku, Zkv, Zkw, Zkx, Zky, Zkz, Zla, Zlb, Zlc, Zld, Zle, Zlf, List.getElem?_cons_zero, List.getElem?_cons_succ, Zlg, Zlh, Zli, Zlj, Zlk, Zll, Zlm, Zln, Zlo, Zlp, Zlq, Zlr, Zls, Zlt, Zlu, Zlv, Zlw, Zlx, Zly, setX, Zlz, Zma, Zmb, Int.ofNat_lt, Int.ofNat_le]
      congr 4
      funext i
      rw [if_neg (by simp [hc])]
end L2.S.W

set_option Elab.async false
set_option linter.all false
set_option maxRecDepth 100000
set_option maxHeartbeats 8000000
namespace L2.S.W
open PySem PySem.Spec PyProof.Rows L2 L2.S
theorem l_ratiosL {w : Nat} {v : Nat → Rat} (hw : w ≤ 1000) : φ_law_ratios [.val (.lst (vec w fun i => pD (v i)))] = .ok (.d (.tup (vec w fun i => rD (v i)))) [] := by
  apply run_law_ratios
  unfold g_law_ratios
  simp -implicitDefEqProofs -dsimp only [↓Zaa, ↓Zab, ↓Zac, ↓Zad, ↓Zae, ↓Zaf, ↓Zag, ↓Zah, ↓Zai, ↓Zaj, ↓Zak, ↓Zal, ↓Zam, ↓Zan, ↓Zao, ↓Zap, ↓Zaq, ↓Zar, ↓Zas, ↓Zat, ↓Zau, ↓Zav, ↓Zaw, ↓Zax, ↓Zay, ↓Zaz, ↓Zba, ↓Zbb, ↓Zbc, ↓Zbd, ↓Zbe, ↓Zbf, ↓Zbg, ↓Zbh, ↓Zbi, ↓Zbj, ↓Zbk, ↓Zbl, ↓Zbm, ↓Zbn, ↓Zbo, ↓Zbp, ↓Zbq, ↓Zbr, ↓Zbs, ↓Zbt, ↓Zbu, ↓Zbv, ↓Zbw, ↓Zbx, ↓Zby, ↓Zbz, ↓Zca, ↓Zcb, ↓Zcc, ↓Zcd, ↓Zce, ↓Zcf, ↓Zcg, ↓Zch, ↓Zci, ↓Zcj, ↓Zck, ↓Zcl, ↓Zcm, ↓Zcn, ↓Zco, ↓Zcp, ↓Zcq, ↓Zcr, ↓Zcs, ↓Zct, ↓Zcu, ↓Zcv, ↓Zcw, ↓Zcx, ↓Zcy, ↓Zcz, ↓Zda, ↓Zdb, ↓Zdc, ↓Zdd, ↓Zde, ↓Zdf, ↓Zdg, ↓Zdh, ↓Zdi, ↓Zdj, ↓Zdk, ↓Zdl, ↓Zdm, ↓Zdn, ↓Zdo, ↓Zdp, ↓Zdq, ↓Zdr, ↓Zds, ↓Zdt, ↓Zdu, ↓Zdv, ↓Zdw, ↓Zdx, ↓Zdy, ↓Zdz, ↓Zea, ↓Zeb, ↓Zec, ↓Zed, ↓Zee, ↓Zef, ↓Zeg, ↓Zeh, ↓Zei, ↓Zej, ↓Zek, ↓Zel, ↓Zem, ↓Zen, ↓Zeo, ↓Zep, ↓Zeq, ↓Zer, ↓Zes, ↓Zet, ↓Zeu, ↓Zev, ↓Zew, ↓Zex, ↓Zey, ↓Zez, ↓Zfa, ↓Zfb, ↓Zfc, ↓Zfd, ↓Zfe, ↓Zff, ↓Zfg, ↓Zfh, ↓Zfi, ↓Zfj, ↓Zfk, ↓Zfl, ↓Zfm, ↓Zfn, ↓Zfo, ↓Zfp, ↓Zfq, ↓Zfr, ↓Zfs, ↓Zft, ↓Zfu, ↓Zfv, ↓Zfw, ↓Zfx, ↓Zfy, ↓Zfz, ↓Zga, ↓Zgb, ↓Zgc, ↓Zgd, ↓Zge, ↓Zgf, ↓Zgg, ↓Zgh, ↓Zgi, ↓Zgj, ↓Zgk, ↓Zgl, ↓Zgm, ↓Zgn, ↓Zgo, ↓Zgp, ↓Zgq, ↓Zgr, ↓Zgs, ↓Zgt, ↓Zgu, ↓Zgv, ↓Zgw, ↓Zgx, ↓Zgy, ↓Zgz, ↓Zha, ↓Zhb, ↓Zhc, ↓Zhd, ↓Zhe, ↓Zhf, ↓Zhg, ↓Zhh, ↓Zhi, ↓Zhj, ↓Zhk, ↓Zhl, ↓Zhm, ↓Zhn, ↓Zho, ↓Zhp, ↓Zhq, ↓Zhr, ↓Zhs, ↓Zht, ↓Zhu, ↓Zhv, ↓Zhw, ↓Zhx, ↓Zhy, ↓Zhz, ↓Zia, ↓Zib, ↓Zic, ↓Zid, ↓Zie, ↓Zif, ↓Zig, ↓Zih, ↓Zii, ↓Zij, ↓Zik, reduceIte, if_true, if_false, Bool.false_eq_true, Bool.and_true, Bool.true_and, Bool.and_false, Bool.false_and, Bool.or_true, Bool.true_or, Bool.or_false, Bool.false_or, Int.cast_ofNat_Int, Zil, Zim, beq_self_eq_true, Int.reduceBEq, Int.reduceLT, Int.reduceLE, Int.reduceEq, Int.reduceNeg, Nat.reduceLT, Zin, Zio, Ziq, Zir, Zis, Zit, Ziu, Ziv, Ziw, Zix, Ziy, Ziz, Zja, Zjb, Zjc, Zjd, Zje, Zjf, Zjg, Zjh, Zji, Zjj, Zjk, Zjl, Zjm, Zjn, Zjo, Zjp, Zjq, Zjr, Zjs, Zjt, Zju, Zjv, Zjw, Zjx, Zjy, Zjz, Zka, Zkb, Zkc, Zkd, Zke, Zkf, Zkg, Zkh, Zki, Zkj, Zkk, Zkl, Zkm, Zkn, Zko, Zkp, List.lookup_nil, Zkq, Zkr, Option.map_some, Option.map_none, Option.bind_some, Option.bind_none, List.map_nil, List.map_cons, List.nil_append, List.cons_append, List.append_nil, List.length_cons, List.length_nil, Nat.reduceAdd, Nat.reduceLeDiff, Nat.reduceEqDiff, Nat.reduceBEq, decide_true, decide_false, Bool.not_true, Bool.not_false, Zks, Zkt, Zku, Zkv, Zkw, Zkx, Zky, Zkz, Zla, Zlb, Zlc, Zld, Zle, Zlf, List.getElem?_cons_zero, List.getElem?_cons_succ, Zlg, Zlh, Zli, Zlj, Zlk, Zll, Zlm, Zln, Zlo, Zlp, Zlq, Zlr, Zls, Zlt, Zlu, Zlv, Zlw, Zlx, Zly, setX, Zlz, Zma, Zmb, Int.ofNat_lt, Int.ofNat_le]
  refine lc_vec (fun i => rD (v i)) rfl (by simp only [wipeE, List.set_cons_zero, List.set_cons_succ]; rfl) (by omega) (fun i hi => ?_) ?_
  · simp -implicitDefEqProofs -dsimp only [↓Zaa, ↓Zab, ↓Zac, ↓Zad, ↓Zae, ↓Zaf, ↓Zag, ↓Zah, ↓Zai, ↓Zaj, ↓Zak, ↓Zal, ↓Zam, ↓Zan, ↓Zao, ↓Zap, ↓Zaq, ↓Zar, ↓Zas, ↓Zat, ↓Zau, ↓Zav, ↓Zaw, ↓Zax, ↓Zay, ↓Zaz, ↓Zba, ↓Zbb, ↓Zbc, ↓Zbd, ↓Zbe, ↓Zbf, ↓Zbg, ↓Zbh, ↓Zbi, ↓Zbj, ↓Zbk, ↓Zbl, ↓Zbm, ↓Zbn, ↓Zbo, ↓Zbp, ↓Zbq, ↓Zbr, ↓Zbs, ↓Zbt, ↓Zbu, ↓Zbv, ↓Zbw, ↓Zbx, ↓Zby, ↓Zbz, ↓Zca, ↓Zcb, ↓Zcc, ↓Zcd, ↓Zce, ↓Zcf, ↓Zcg, ↓Zch, ↓Zci, ↓Zcj, ↓Zck, ↓Zcl, ↓Zcm, ↓Zcn, ↓Zco, ↓Zcp, ↓Zcq, ↓Zcr, ↓Zcs, ↓Zct, ↓Zcu, ↓Zcv, ↓Zcw, ↓Zcx, ↓Zcy, ↓Zcz, ↓Zda, ↓Zdb, ↓Zdc, ↓Zdd, ↓Zde, ↓Zdf, ↓Zdg, ↓Zdh, ↓Zdi, ↓Zdj, ↓Zdk, ↓Zdl, ↓Zdm, ↓Zdn, ↓Zdo, ↓Zdp, ↓Zdq, ↓Zdr, ↓Zds, ↓Zdt, ↓Zdu, ↓Zdv, ↓Zdw, ↓Zdx, ↓Zdy, ↓Zdz, ↓Zea, ↓Zeb, ↓Zec, ↓Zed, ↓Zee, ↓Zef, ↓Zeg, ↓Zeh, ↓Zei, ↓Zej, ↓Zek, ↓Zel, ↓Zem, ↓Zen, ↓Zeo, ↓Zep, ↓Zeq, ↓Zer, ↓Zes, ↓Zet, ↓Zeu, ↓Zev, ↓Zew, ↓Zex, ↓Zey, ↓Zez, ↓Zfa, ↓Zfb, ↓Zfc, ↓Zfd, ↓Zfe, ↓Zff, ↓Zfg, ↓Zfh, ↓Zfi, ↓Zfj, ↓Zfk, ↓Zfl, ↓Zfm, ↓Zfn, ↓Zfo, ↓Zfp, ↓Zfq, ↓Zfr, ↓Zfs, ↓Zft, ↓Zfu, ↓Zfv, ↓Zfw, ↓Zfx, ↓Zfy, ↓Zfz, ↓Zga, ↓Zgb, ↓Zgc, ↓Zgd, ↓Zge, ↓Zgf, ↓Zgg, ↓Zgh, ↓Zgi, ↓Zgj, ↓Zgk, ↓Zgl, ↓Zgm, ↓Zgn, ↓Zgo, ↓Zgp, ↓Zgq, ↓Zgr, ↓Zgs, ↓Zgt, ↓Zgu, ↓Zgv, ↓Zgw, ↓Zgx, ↓Zgy, ↓Zgz, ↓Zha, ↓Zhb, ↓Zhc, ↓Zhd, ↓Zhe, ↓Zhf, ↓Zhg, ↓Zhh, ↓Zhi, ↓Zhj, ↓Zhk, ↓Zhl, ↓Zhm, ↓Zhn, ↓Zho, ↓Zhp, ↓Zhq, ↓Zhr, ↓Zhs, ↓Zht, ↓Zhu, ↓Zhv, ↓Zhw, ↓Zhx, ↓Zhy, ↓Zhz, ↓Zia, ↓Zib, ↓Zic, ↓Zid, ↓Zie, ↓Zif, ↓Zig, ↓Zih, ↓Zii, ↓Zij, ↓Zik, reduceIte, if_true, if_false, Bool.false_eq_true, Bool.and_true, Bool.true_and, Bool.and_false, Bool.false_and, Bool.or_true, Bool.true_or, Bool.or_false, Bool.false_or, Int.cast_ofNat_Int, Zil, Zim, beq_self_eq_true, Int.reduceBEq, Int.reduceLT, Int.reduceLE, Int.reduceEq, Int.reduceNeg, Nat.reduceLT, Zin, Zio, Ziq, Zir, Zis, Zit, Ziu, Ziv, Ziw, Zix, Ziy, Ziz, Zja, Zjb, Zjc, Zjd, Zje, Zjf, Zjg, Zjh, Zji, Zjj, Zjk, Zjl, Zjm, Zjn, Zjo, Zjp, Zjq, Zjr, Zjs, Zjt, Zju, Zjv, Zjw, Zjx, Zjy, Zjz, Zka, Zkb, Zkc, Zkd, Zke, Zkf, Zkg, Zkh, Zki, Zkj, Zkk, Zkl, Zkm, Zkn, Zko, Zkp, List.lookup_nil, Zkq, Zkr, Option.map_some, Option.map_none, Option.bind_some, Option.bind_none, List.map_nil, List.map_cons, List.nil_append, List.cons_append, List.append_nil, List.length_cons, List.length_nil, Nat.reduceAdd, Nat.reduceLeDiff, Nat.reduceEqDiff, Nat.reduceBEq, decide_true, decide_false, Bool.not_true, Bool.not_false, Zks, Zkt, Zku, Zkv, Zkw, Zkx, Zky, Zkz, Zla, Zlb, Zlc, Zld, Zle, Zlf, List.getElem?_cons_zero, List.getElem?_cons_succ, Zlg, Zlh, Zli, Zlj, Zlk, Zll, Zlm, Zln, Zlo, Zlp, Zlq, Zlr, Zls, Zlt, Zlu, Zlv, Zlw, Zlx, Zly, setX, Zlz, Zma, Zmb, Int.ofNat_lt, Int.ofNat_le, i_rat _ _ (den_ne' (v i)) (Rat.num_divInt_den (v i))]
    exact ⟨rfl, rfl, trivial⟩
  · simp -implicitDefEqProofs -dsimp only [↓Zaa, ↓Zab, ↓Zac, ↓Zad, ↓Zae, ↓Zaf, ↓Zag, ↓Zah, ↓Zai, ↓Zaj, ↓Zak, ↓Zal, ↓Zam, ↓Zan, ↓Zao, ↓Zap, ↓Zaq, ↓Zar, ↓Zas, ↓Zat, ↓Zau, ↓Zav, ↓Zaw, ↓Zax, ↓Zay, ↓Zaz, ↓Zba, ↓Zbb, ↓Zbc, ↓Zbd, ↓Zbe, ↓Zbf, ↓Zbg, ↓Zbh, ↓Zbi, ↓Zbj, ↓Zbk, ↓Zbl, ↓Zbm, ↓Zbn, ↓Zbo, ↓Zbp, ↓Zbq, ↓Zbr, ↓Zbs, ↓Zbt, ↓Zbu, ↓Zbv, ↓Zbw, ↓Zbx, ↓Zby, ↓Zbz, ↓Zca, ↓Zcb, ↓Zcc, ↓Zcd, ↓Zce, ↓Zcf, ↓Zcg, ↓Zch, ↓Zci, ↓Zcj, ↓Zck, ↓Zcl, ↓Zcm, ↓Zcn, ↓Zco, ↓Zcp, ↓Zcq, ↓Zcr, ↓Zcs, ↓Zct, ↓Zcu, ↓Zcv, ↓Zcw, ↓Zcx, ↓Zcy, ↓Zcz, ↓Zda, ↓Zdb, ↓Zdc, ↓Zdd, ↓Zde, ↓Zdf, ↓Zdg, ↓Zdh, ↓Zdi, ↓Zdj, ↓Zdk, ↓Zdl, ↓Zdm, ↓Zdn, ↓Zdo, ↓Zdp, ↓Zdq, ↓Zdr, ↓Zds, ↓Zdt, ↓Zdu, ↓Zdv, ↓Zdw, ↓Zdx, ↓Zdy, ↓Zdz, ↓Zea, ↓Zeb, ↓Zec, ↓Zed, ↓Zee, ↓Zef, ↓Zeg, ↓Zeh, ↓Zei, ↓Zej, ↓Zek, ↓Zel, ↓Zem, ↓Zen, ↓Zeo, ↓Zep, ↓Zeq, ↓Zer, ↓Zes, ↓Zet, ↓Zeu, ↓Zev, ↓Zew, ↓Zex, ↓Zey, ↓Zez, ↓Zfa, ↓Zfb, ↓Zfc, ↓Zfd, ↓Zfe, ↓Zff, ↓Zfg, ↓Zfh, ↓Zfi, ↓Zfj, ↓Zfk, ↓Zfl, ↓Zfm, ↓Zfn, ↓Zfo, ↓Zfp, ↓Zfq, ↓Zfr, ↓Zfs, ↓Zft, ↓Zfu, ↓Zfv, ↓Zfw, ↓Zfx, ↓Zfy, ↓Zfz, ↓Zga, ↓Zgb, ↓Zgc, ↓Zgd, ↓Zge, ↓Zgf, ↓Zgg, ↓Zgh, ↓Zgi, ↓Zgj, ↓Zgk, ↓Zgl, ↓Zgm, ↓Zgn, ↓Zgo, ↓Zgp, ↓Zgq, ↓Zgr, ↓Zgs, ↓Zgt, ↓Zgu, ↓Zgv, ↓Zgw, ↓Zgx, ↓Zgy, ↓Zgz, ↓Zha, ↓Zhb, ↓Zhc, ↓Zhd, ↓Zhe, ↓Zhf, ↓Zhg, ↓Zhh, ↓Zhi, ↓Zhj, ↓Zhk, ↓Zhl, ↓Zhm, ↓Zhn, ↓Zho, ↓Zhp, ↓Zhq, ↓Zhr, ↓Zhs, ↓Zht, ↓Zhu, ↓Zhv, ↓Zhw, ↓Zhx, ↓Zhy, ↓Zhz, ↓Zia, ↓Zib, ↓Zic, ↓Zid, ↓Zie, ↓Zif, ↓Zig, ↓Zih, ↓Zii, ↓Zij, ↓Zik, reduceIte, if_true, if_false, Bool.false_eq_true, Bool.and_true, Bool.true_and, Bool.and_false, Bool.false_and, Bool.or_true, Bool.true_or, Bool.or_false, Bool.false_or, Int.cast_ofNat_Int, Zil, Zim, beq_self_eq_true, Int.reduceBEq, Int.reduceLT, Int.reduceLE, Int.reduceEq, Int.reduceNeg, Nat.reduceLT, Zin, Zio, Ziq, Zir, Zis, Zit, Ziu, Ziv, Ziw, Zix, Ziy, Ziz, Zja, Zjb, Zjc, Zjd, Zje, Zjf, Zjg, Zjh, Zji, Zjj, Zjk, Zjl, Zjm, Zjn, Zjo, Zjp, Zjq, Zjr, Zjs, Zjt, Zju, Zjv, Zjw, Zjx, Zjy, Zjz, Zka, Zkb, Zkc, Zkd, Zke, Zkf, Zkg, Zkh, Zki, Zkj, Zkk, Zkl, Zkm, Zkn, Zko, Zkp, List.lookup_nil, Zkq, Zkr, Option.map_some, Option.map_none, Option.bind_some, Option.bind_none, List.map_nil, List.map_cons, List.nil_append, List.cons_append, List.append_nil, List.length_cons, List.length_nil, Nat.reduceAdd, Nat.reduceLeDiff, Nat.reduceEqDiff, Nat.reduceBEq, decide_true, decide_false, Bool.not_true, Bool.not_false, Zks, Zkt, Zku, Zkv, Zkw, Zkx, Zky, Zkz, Zla, Zlb, Zlc, Zld, Zle, Zlf, List.getElem?_cons_zero, List.getElem?_cons_succ, Zlg, Zlh, Zli, Zlj, Zlk, Zll, Zlm, Zln, Zlo, Zlp, Zlq, Zlr, Zls, Zlt, Zlu, Zlv, Zlw, Zlx, Zly, setX, Zlz, Zma, Zmb, Int.ofNat_lt, Int.ofNat_le]
theorem l_sub {a b : Rat} {j k : Nat} (ha : Sz j a) (hb : Sz k b) (l : j + k ≤ 50000000) : φ_law_add [.val (pD a), .val (.tup [.int (-b.num), .int (b.den : Int)])] = .ok (.d (pD (a - b))) [] := by
  have := l_add ha hb.neg l
  have e : pD (-b) = .tup [.int (-b.num), .int (b.den : Int)] := by rw [← Rat.neg_num, ← Rat.neg_den]
  rwa [e, ← Rat.sub_eq_add_neg] at this
theorem the_law (ns : List Int) (hl : ns.length ≤ 63) (hb : ∀ z ∈ ns, PySem.Builtin.Int.intBits z ≤ 1048576) : ∃ outs, φ_law [.val (.ro (ns.map D.int))] = .ok (.d (.bl true)) outs := by
  obtain ⟨rs, hr, hrl, hrb⟩ := s_draws ns 0 4 36 (by decide) (by decide) (by decide)
  match rs, hrl with
  | [a, b, c, d], _ =>
  have hr : φ_law_draws [.val (.ro (ns.map D.int)), .val (.int 0), .val (.int 4), .val (.int 36)] = .ok (.o (.l [.int a, .int b, .int c, .int d])) [] := hr
  have ha := hrb a (by simp)
  obtain ⟨h, hh, hh4⟩ : ∃ h : Nat, a % 5 = (h : Int) ∧ h ≤ 4 := ⟨(a % 5).toNat, by omega, by omega⟩
  obtain ⟨w, hw, hw4⟩ : ∃ w : Nat, a.fdiv 5 % 5 = (w : Int) ∧ w ≤ 4 := ⟨(a.fdiv 5 % 5).toNat, by omega, by omega⟩
  obtain ⟨t, ht, hm⟩ := l_matrix (ns := ns) (k := 1) (h := h) (w := w) (by decide) (by omega) (by omega)
  have hm : φ_law_matrix [.val (.ro (ns.map D.int)), .val (.int 1), .val (.int h), .val (.int w)] = .ok (.d (.tup (vec h fun i => rowP w (t i)))) [] := hm
  have pw : 5 ^ w ≤ 5 ^ 4 := Nat.pow_le_pow_right (by decide) hw4
  have p5 : 20 * 5 ^ w ≤ 12500 := by omega
  have q1 := m_kernel (h := h) (w := w) (K := 20) (t := t) (by omega) (by omega) (by decide) (fun i j _ _ => ht i j) (by omega)
  have q2 := m_reduced (h := h) (w := w) (K := 20) (t := t) (by omega) (by omega) (by decide) (fun i j _ _ => ht i j) (by omega)
  have R := elim_red h w t w
  have sz := elim_sz (n := h) (L := w) (K := 20) (t0 := t) (by decide) (fun i j _ _ => ht i j) w (Nat.le_refl _)
  generalize elim h t w = s at q1 q2 R sz
  generalize hF : frees s.pv w = F at q1
  have hFl : F.length ≤ w := by rw [← hF]; exact frees_len
  have hFm : ∀ f, f ∈ F → f < w ∧ f ∉ s.pv := fun f hf => by rw [← hF] at hf; exact mem_frees.mp hf
  have hFk : ∀ k, k < F.length → F.getD k 0 ∈ F := fun k hk => by rw [List.getD_eq_getElem?_getD, List.getElem?_eq_getElem hk]; exact List.getElem_mem hk
  have hd := R.le
  have ksz : ∀ f, f ∈ F → ∀ j, Sz 12500 (kvec s f s.pv.length j) := fun f hf j => kvec_sz (by decide) (fun i hi => (sz i f (by omega) (hFm f hf).1).mono p5) j
  obtain ⟨its, hi1, hi2, hi3⟩ := s_draws ns 2 (2 * w) 95 (by decide) (by omega) (by decide)
  have hi1 : φ_law_draws [.val (.ro (ns.map D.int)), .val (.int 2), .val (.int (2 * w : Nat)), .val (.int 95)] = .ok (.o (.l (its.map D.int))) [] := hi1
  have e2w : (2 : Int) * (w : Int) = ((2 * w : Nat) : Int) := by omega
  have m1 : mulOk 2 (w : Int) = true := Bt.ok (Bt.s20 (by omega) (by omega)) (Bt.s20 (by omega) (by omega))
  have hsw := smI_ok (show w ≤ 16777216 by omega)
  have hsF := smI_ok (show F.length ≤ 16777216 by omega)
  let x0 : Nat → Rat := fun j => sml (its.getD (2 * j) 0) (its.getD (2 * j + 1) 0)
  have sx0 : ∀ j, Sz 20 (x0 j) := fun j => sml_sz ..
  let bb : Nat → Rat := fun i => sumN w fun j => t i j * x0 j
  have pb : 1 + w * (20 + 20 + 1) ≤ 165 := by omega
  have sb : ∀ i, Sz 165 (bb i) := fun i => (sum_sz (fun j _ => ht i j) fun j _ => sx0 j).mono pb
  have q3 := m_solve (h := h) (w := w) (K := 165) (t := t) (b := bb) (by omega) (by omega) (by decide) (fun i j _ _ => (ht i j).mono (by decide)) (fun i _ => sb i) (by omega)
  have R3 := elim_red h (w + 1 + h) (augT w t bb) w
  have sz3 := elim_sz (n := h) (L := w + 1 + h) (K := 165) (t0 := augT w t bb) (by decide) (fun i j hi hj => by
    unfold augT
    split
    · split
      · exact (ht i j).mono (by decide)
      · exact sb i
    · split
      · exact Sz.one.mono (by decide)
      · exact Sz.zero.mono (by decide)) w (by omega)
  generalize elim h (augT w t bb) w = s3 at q3 R3 sz3
  rw [solve_some R3 (x := x0) fun i _ => rfl] at q3
  have tm := l_tomat (h := h) (w := w) (t := t) (by omega) (by omega)
  refine ⟨[], ?_⟩
  apply run_law
  unfold g_law
  simp -implicitDefEqProofs -dsimp only [↓Zaa, ↓Zab, ↓Zac, ↓Zad, ↓Zae, ↓Zaf, ↓Zag, ↓Zah, ↓Zai, ↓Zaj, ↓Zak, ↓Zal, ↓Zam, ↓Zan, ↓Zao, ↓Zap, ↓Zaq, ↓Zar, ↓Zas, ↓Zat, ↓Zau, ↓Zav, ↓Zaw, ↓Zax, ↓Zay, ↓Zaz, ↓Zba, ↓Zbb, ↓Zbc, ↓Zbd, ↓Zbe, ↓Zbf, ↓Zbg, ↓Zbh, ↓Zbi, ↓Zbj, ↓Zbk, ↓Zbl, ↓Zbm, ↓Zbn, ↓Zbo, ↓Zbp, ↓Zbq, ↓Zbr, ↓Zbs, ↓Zbt, ↓Zbu, ↓Zbv, ↓Zbw, ↓Zbx, ↓Zby, ↓Zbz, ↓Zca, ↓Zcb, ↓Zcc, ↓Zcd, ↓Zce, ↓Zcf, ↓Zcg, ↓Zch, ↓Zci, ↓Zcj, ↓Zck, ↓Zcl, ↓Zcm, ↓Zcn, ↓Zco, ↓Zcp, ↓Zcq, ↓Zcr, ↓Zcs, ↓Zct, ↓Zcu, ↓Zcv, ↓Zcw, ↓Zcx, ↓Zcy, ↓Zcz, ↓Zda, ↓Zdb, ↓Zdc, ↓Zdd, ↓Zde, ↓Zdf, ↓Zdg, ↓Zdh, ↓Zdi, ↓Zdj, ↓Zdk, ↓Zdl, ↓Zdm, ↓Zdn, ↓Zdo, ↓Zdp, ↓Zdq, ↓Zdr, ↓Zds, ↓Zdt, ↓Zdu, ↓Zdv, ↓Zdw, ↓Zdx, ↓Zdy, ↓Zdz, ↓Zea, ↓Zeb, ↓Zec, ↓Zed, ↓Zee, ↓Zef, ↓Zeg, ↓Zeh, ↓Zei, ↓Zej, ↓Zek, ↓Zel, ↓Zem, ↓Zen, ↓Zeo, ↓Zep, ↓Zeq, ↓Zer, ↓Zes, ↓Zet, ↓Zeu, ↓Zev, ↓Zew, ↓Zex, ↓Zey, ↓Zez, ↓Zfa, ↓Zfb, ↓Zfc, ↓Zfd, ↓Zfe, ↓Zff, ↓Zfg, ↓Zfh, ↓Zfi, ↓Zfj, ↓Zfk, ↓Zfl, ↓Zfm, ↓Zfn, ↓Zfo, ↓Zfp, ↓Zfq, ↓Zfr, ↓Zfs, ↓Zft, ↓Zfu, ↓Zfv, ↓Zfw, ↓Zfx, ↓Zfy, ↓Zfz, ↓Zga, ↓Zgb, ↓Zgc, ↓Zgd, ↓Zge, ↓Zgf, ↓Zgg, ↓Zgh, ↓Zgi, ↓Zgj, ↓Zgk, ↓Zgl, ↓Zgm, ↓Zgn, ↓Zgo, ↓Zgp, ↓Zgq, ↓Zgr, ↓Zgs, ↓Zgt, ↓Zgu, ↓Zgv, ↓Zgw, ↓Zgx, ↓Zgy, ↓Zgz, ↓Zha, ↓Zhb, ↓Zhc, ↓Zhd, ↓Zhe, ↓Zhf, ↓Zhg, ↓Zhh, ↓Zhi, ↓Zhj, ↓Zhk, ↓Zhl, ↓Zhm, ↓Zhn, ↓Zho, ↓Zhp, ↓Zhq, ↓Zhr, ↓Zhs, ↓Zht, ↓Zhu, ↓Zhv, ↓Zhw, ↓Zhx, ↓Zhy, ↓Zhz, ↓Zia, ↓Zib, ↓Zic, ↓Zid, ↓Zie, ↓Zif, ↓Zig, ↓Zih, ↓Zii, ↓Zij, ↓Zik, reduceIte, if_true, if_false, Bool.false_eq_true, Bool.and_true, Bool.true_and, Bool.and_false, Bool.false_and, Bool.or_true, Bool.true_or, Bool.or_false, Bool.false_or, Int.cast_ofNat_Int, Zil, Zim, beq_self_eq_true, Int.reduceBEq, Int.reduceLT, Int.reduceLE, Int.reduceEq, Int.reduceNeg, Nat.reduceLT, Zin, Zio, Ziq, Zir, Zis, Zit, Ziu, Ziv, Ziw, Zix, Ziy, Ziz, Zja, Zjb, Zjc, Zjd, Zje, Zjf, Zjg, Zjh, Zji, Zjj, Zjk, Zjl, Zjm, Zjn, Zjo, Zjp, Zjq, Zjr, Zjs, Zjt, Zju, Zjv, Zjw, Zjx, Zjy, Zjz, Zka, Zkb, Zkc, Zkd, Zke, Zkf, Zkg, Zkh, Zki, Zkj, Zkk, Zkl, Zkm, Zkn, Zko, Zkp, List.lookup_nil, Zkq, Zkr, Option.map_some, Option.map_none, Option.bind_some, Option.bind_none, List.map_nil, List.map_cons, List.nil_append, List.cons_append, List.append_nil, List.length_cons, List.length_nil, Nat.reduceAdd, Nat.reduceLeDiff, Nat.reduceEqDiff, Nat.reduceBEq, decide_true, decide_false, Bool.not_true, Bool.not_false, Zks, Zkt, Zku, Zkv, Zkw, Zkx, Zky, Zkz, Zla, Zlb, Zlc, Zld, Zle, Zlf, List.getElem?_cons_zero, List.getElem?_cons_succ, Zlg, Zlh, Zli, Zlj, Zlk, Zll, Zlm, Zln, Zlo, Zlp, Zlq, Zlr, Zls, Zlt, Zlu, Zlv, Zlw, Zlx, Zly, setX, Zlz, Zma, Zmb, Int.ofNat_lt, Int.ofNat_le, hr, mod_ii (show (0 : Int) < 5 by decide), div_ii (show (5 : Int) ≠ 0 by decide), hh, hw, hm, tm, q1, q2, hsw]
  refine lc_rngF (fun f => !decide (f ∈ s.pv)) rfl (by simp only [wipeE, List.set_cons_zero, List.set_cons_succ]; rfl) (by omega) (fun i hi => ?_) ?_
  · by_cases hp : i ∈ s.pv
    · have e1 : (!decide (i ∈ s.pv)) = false := by simp [hp]
      rw [e1]
      simp -implicitDefEqProofs -dsimp only [↓Zaa, ↓Zab, ↓Zac, ↓Zad, ↓Zae, ↓Zaf, ↓Zag, ↓Zah, ↓Zai, ↓Zaj, ↓Zak, ↓Zal, ↓Zam, ↓Zan, ↓Zao, ↓Zap, ↓Zaq, ↓Zar, ↓Zas, ↓Zat, ↓Zau, ↓Zav, ↓Zaw, ↓Zax, ↓Zay, ↓Zaz, ↓Zba, ↓Zbb, ↓Zbc, ↓Zbd, ↓Zbe, ↓Zbf, ↓Zbg, ↓Zbh, ↓Zbi, ↓Zbj, ↓Zbk, ↓Zbl, ↓Zbm, ↓Zbn, ↓Zbo, ↓Zbp, ↓Zbq, ↓Zbr, ↓Zbs, ↓Zbt, ↓Zbu, ↓Zbv, ↓Zbw, ↓Zbx, ↓Zby, ↓Zbz, ↓Zca, ↓Zcb, ↓Zcc, ↓Zcd, ↓Zce, ↓Zcf, ↓Zcg, ↓Zch, ↓Zci, ↓Zcj, ↓Zck, ↓Zcl, ↓Zcm, ↓Zcn, ↓Zco, ↓Zcp, ↓Zcq, ↓Zcr, ↓Zcs, ↓Zct, ↓Zcu, ↓Zcv, ↓Zcw, ↓Zcx, ↓Zcy, ↓Zcz, ↓Zda, ↓Zdb, ↓Zdc, ↓Zdd, ↓Zde, ↓Zdf, ↓Zdg, ↓Zdh, ↓Zdi, ↓Zdj, ↓Zdk, ↓Zdl, ↓Zdm, ↓Zdn, ↓Zdo, ↓Zdp, ↓Zdq, ↓Zdr, ↓Zds, ↓Zdt, ↓Zdu, ↓Zdv, ↓Zdw, ↓Zdx, ↓Zdy, ↓Zdz, ↓Zea, ↓Zeb, ↓Zec, ↓Zed, ↓Zee, ↓Zef, ↓Zeg, ↓Zeh, ↓Zei, ↓Zej, ↓Zek, ↓Zel, ↓Zem, ↓Zen, ↓Zeo, ↓Zep, ↓Zeq, ↓Zer, ↓Zes, ↓Zet, ↓Zeu, ↓Zev, ↓Zew, ↓Zex, ↓Zey, ↓Zez, ↓Zfa, ↓Zfb, ↓Zfc, ↓Zfd, ↓Zfe, ↓Zff, ↓Zfg, ↓Zfh, ↓Zfi, ↓Zfj, ↓Zfk, ↓Zfl, ↓Zfm, ↓Zfn, ↓Zfo, ↓Zfp, ↓Zfq, ↓Zfr, ↓Zfs, ↓Zft, ↓Zfu, ↓Zfv, ↓Zfw, ↓Zfx, ↓Zfy, ↓Zfz, ↓Zga, ↓Zgb, ↓Zgc, ↓Zgd, ↓Zge, ↓Zgf, ↓Zgg, ↓Zgh, ↓Zgi, ↓Zgj, ↓Zgk, ↓Zgl, ↓Zgm, ↓Zgn, ↓Zgo, ↓Zgp, ↓Zgq, ↓Zgr, ↓Zgs, ↓Zgt, ↓Zgu, ↓Zgv, ↓Zgw, ↓Zgx, ↓Zgy, ↓Zgz, ↓Zha, ↓Zhb, ↓Zhc, ↓Zhd, ↓Zhe, ↓Zhf, ↓Zhg, ↓Zhh, ↓Zhi, ↓Zhj, ↓Zhk, ↓Zhl, ↓Zhm, ↓Zhn, ↓Zho, ↓Zhp, ↓Zhq, ↓Zhr, ↓Zhs, ↓Zht, ↓Zhu, ↓Zhv, ↓Zhw, ↓Zhx, ↓Zhy, ↓Zhz, ↓Zia, ↓Zib, ↓Zic, ↓Zid, ↓Zie, ↓Zif, ↓Zig, ↓Zih, ↓Zii, ↓Zij, ↓Zik, reduceIte, if_true, if_false, Bool.false_eq_true, Bool.and_true, Bool.true_and, Bool.and_false, Bool.false_and, Bool.or_true, Bool.true_or, Bool.or_false, Bool.false_or, Int.cast_ofNat_Int, Zil, Zim, beq_self_eq_true, Int.reduceBEq, Int.reduceLT, Int.reduceLE, Int.reduceEq, Int.reduceNeg, Nat.reduceLT, Zin, Zio, Ziq, Zir, Zis, Zit, Ziu, Ziv, Ziw, Zix, Ziy, Ziz, Zja, Zjb, Zjc, Zjd, Zje, Zjf, Zjg, Zjh, Zji, Zjj, Zjk, Zjl, Zjm, Zjn, Zjo, Zjp, Zjq, Zjr, Zjs, Zjt, Zju, Zjv, Zjw, Zjx, Zjy, Zjz, Zka, Zkb, Zkc, Zkd, Zke, Zkf, Zkg, Zkh, Zki, Zkj, Zkk, Zkl, Zkm, Zkn, Zko, Zkp, List.lookup_nil, Zkq, Zkr, Option.map_some, Option.map_none, Option.bind_some, Option.bind_none, List.map_nil, List.map_cons, List.nil_append, List.cons_append, List.append_nil, List.length_cons, List.length_nil, Nat.reduceAdd, Nat.reduceLeDiff, Nat.reduceEqDiff, Nat.reduceBEq, decide_true, decide_false, Bool.not_true, Bool.not_false, Zks, Zkt, Zku, Zkv, Zkw, Zkx, Zky, Zkz, Zla, Zlb, Zlc, Zld, Zle, Zlf, List.getElem?_cons_zero, List.getElem?_cons_succ, Zlg, Zlh, Zli, Zlj, Zlk, Zll, Zlm, Zln, Zlo, Zlp, Zlq, Zlr, Zls, Zlt, Zlu, Zlv, Zlw, Zlx, Zly, setX, Zlz, Zma, Zmb, Int.ofNat_lt, Int.ofNat_le, pNin_pv, e1]
      exact ⟨rfl, rfl, trivial⟩
    · have e1 : (!decide (i ∈ s.pv)) = true := by simp [hp]
      rw [e1]
      simp -implicitDefEqProofs -dsimp only [↓Zaa, ↓Zab, ↓Zac, ↓Zad, ↓Zae, ↓Zaf, ↓Zag, ↓Zah, ↓Zai, ↓Zaj, ↓Zak, ↓Zal, ↓Zam, ↓Zan, ↓Zao, ↓Zap, ↓Zaq, ↓Zar, ↓Zas, ↓Zat, ↓Zau, ↓Zav, ↓Zaw, ↓Zax, ↓Zay, ↓Zaz, ↓Zba, ↓Zbb, ↓Zbc, ↓Zbd, ↓Zbe, ↓Zbf, ↓Zbg, ↓Zbh, ↓Zbi, ↓Zbj, ↓Zbk, ↓Zbl, ↓Zbm, ↓Zbn, ↓Zbo, ↓Zbp, ↓Zbq, ↓Zbr, ↓Zbs, ↓Zbt, ↓Zbu, ↓Zbv, ↓Zbw, ↓Zbx, ↓Zby, ↓Zbz, ↓Zca, ↓Zcb, ↓Zcc, ↓Zcd, ↓Zce, ↓Zcf, ↓Zcg, ↓Zch, ↓Zci, ↓Zcj, ↓Zck, ↓Zcl, ↓Zcm, ↓Zcn, ↓Zco, ↓Zcp, ↓Zcq, ↓Zcr, ↓Zcs, ↓Zct, ↓Zcu, ↓Zcv, ↓Zcw, ↓Zcx, ↓Zcy, ↓Zcz, ↓Zda, ↓Zdb, ↓Zdc, ↓Zdd, ↓Zde, ↓Zdf, ↓Zdg, ↓Zdh, ↓Zdi, ↓Zdj, ↓Zdk, ↓Zdl, ↓Zdm, ↓Zdn, ↓Zdo, ↓Zdp, ↓Zdq, ↓Zdr, ↓Zds, ↓Zdt, ↓Zdu, ↓Zdv, ↓Zdw, ↓Zdx, ↓Zdy, ↓Zdz, ↓Zea, ↓Zeb, ↓Zec, ↓Zed, ↓Zee, ↓Zef, ↓Zeg, ↓Zeh, ↓Zei, ↓Zej, ↓Zek, ↓Zel, ↓Zem, ↓Zen, ↓Zeo, ↓Zep, ↓Zeq, ↓Zer, ↓Zes, ↓Zet, ↓Zeu, ↓Zev, ↓Zew, ↓Zex, ↓Zey, ↓Zez, ↓Zfa, ↓Zfb, ↓Zfc, ↓Zfd, ↓Zfe, ↓Zff, ↓Zfg, ↓Zfh, ↓Zfi, ↓Zfj, ↓Zfk, ↓Zfl, ↓Zfm, ↓Zfn, ↓Zfo, ↓Zfp, ↓Zfq, ↓Zfr, ↓Zfs, ↓Zft, ↓Zfu, ↓Zfv, ↓Zfw, ↓Zfx, ↓Zfy, ↓Zfz, ↓Zga, ↓Zgb, ↓Zgc, ↓Zgd, ↓Zge, ↓Zgf, ↓Zgg, ↓Zgh, ↓Zgi, ↓Zgj, ↓Zgk, ↓Zgl, ↓Zgm, ↓Zgn, ↓Zgo, ↓Zgp, ↓Zgq, ↓Zgr, ↓Zgs, ↓Zgt, ↓Zgu, ↓Zgv, ↓Zgw, ↓Zgx, ↓Zgy, ↓Zgz, ↓Zha, ↓Zhb, ↓Zhc, ↓Zhd, ↓Zhe, ↓Zhf, ↓Zhg, ↓Zhh, ↓Zhi, ↓Zhj, ↓Zhk, ↓Zhl, ↓Zhm, ↓Zhn, ↓Zho, ↓Zhp, ↓Zhq, ↓Zhr, ↓Zhs, ↓Zht, ↓Zhu, ↓Zhv, ↓Zhw, ↓Zhx, ↓Zhy, ↓Zhz, ↓Zia, ↓Zib, ↓Zic, ↓Zid, ↓Zie, ↓Zif, ↓Zig, ↓Zih, ↓Zii, ↓Zij, ↓Zik, reduceIte, if_true, if_false, Bool.false_eq_true, Bool.and_true, Bool.true_and, Bool.and_false, Bool.false_and, Bool.or_true, Bool.true_or, Bool.or_false, Bool.false_or, Int.cast_ofNat_Int, Zil, Zim, beq_self_eq_true, Int.reduceBEq, Int.reduceLT, Int.reduceLE, Int.reduceEq, Int.reduceNeg, Nat.reduceLT, Zin, Zio, Ziq, Zir, Zis, Zit, Ziu, Ziv, Ziw, Zix, Ziy, Ziz, Zja, Zjb, Zjc, Zjd, Zje, Zjf, Zjg, Zjh, Zji, Zjj, Zjk, Zjl, Zjm, Zjn, Zjo, Zjp, Zjq, Zjr, Zjs, Zjt, Zju, Zjv, Zjw, Zjx, Zjy, Zjz, Zka, Zkb, Zkc, Zkd, Zke, Zkf, Zkg, Zkh, Zki, Zkj, Zkk, Zkl, Zkm, Zkn, Zko, Zkp, List.lookup_nil, Zkq, Zkr, Option.map_some, Option.map_none, Option.bind_some, Option.bind_none, List.map_nil, List.map_cons, List.nil_append, List.cons_append, List.append_nil, List.length_cons, List.length_nil, Nat.reduceAdd, Nat.reduceLeDiff, Nat.reduceEqDiff, Nat.reduceBEq, decide_true, decide_false, Bool.not_true, Bool.not_false, Zks, Zkt, Zku, Zkv, Zkw, Zkx, Zky, Zkz, Zla, Zlb, Zlc, Zld, Zle, Zlf, List.getElem?_cons_zero, List.getElem?_cons_succ, Zlg, Zlh, Zli, Zlj, Zlk, Zll, Zlm, Zln, Zlo, Zlp, Zlq, Zlr, Zls, Zlt, Zlu, Zlv, Zlw, Zlx, Zly, setX, Zlz, Zma, Zmb, Int.ofNat_lt, Int.ofNat_le, pNin_pv, e1]
      exact ⟨rfl, rfl, trivial⟩
  rw [show (List.range w).filter (fun f => !decide (f ∈ s.pv)) = F from hF]
  have eF : ((F.length : Int) == (F.length : Int)) = true := by simp
  simp -implicitDefEqProofs -dsimp only [↓Zaa, ↓Zab, ↓Zac, ↓Zad, ↓Zae, ↓Zaf, ↓Zag, ↓Zah, ↓Zai, ↓Zaj, ↓Zak, ↓Zal, ↓Zam, ↓Zan, ↓Zao, ↓Zap, ↓Zaq, ↓Zar, ↓Zas, ↓Zat, ↓Zau, ↓Zav, ↓Zaw, ↓Zax, ↓Zay, ↓Zaz, ↓Zba, ↓Zbb, ↓Zbc, ↓Zbd, ↓Zbe, ↓Zbf, ↓Zbg, ↓Zbh, ↓Zbi, ↓Zbj, ↓Zbk, ↓Zbl, ↓Zbm, ↓Zbn, ↓Zbo, ↓Zbp, ↓Zbq, ↓Zbr, ↓Zbs, ↓Zbt, ↓Zbu, ↓Zbv, ↓Zbw, ↓Zbx, ↓Zby, ↓Zbz, ↓Zca, ↓Zcb, ↓Zcc, ↓Zcd, ↓Zce, ↓Zcf, ↓Zcg, ↓Zch, ↓Zci, ↓Zcj, ↓Zck, ↓Zcl, ↓Zcm, ↓Zcn, ↓Zco, ↓Zcp, ↓Zcq, ↓Zcr, ↓Zcs, ↓Zct, ↓Zcu, ↓Zcv, ↓Zcw, ↓Zcx, ↓Zcy, ↓Zcz, ↓Zda, ↓Zdb, ↓Zdc, ↓Zdd, ↓Zde, ↓Zdf, ↓Zdg, ↓Zdh, ↓Zdi, ↓Zdj, ↓Zdk, ↓Zdl, ↓Zdm, ↓Zdn, ↓Zdo, ↓Zdp, ↓Zdq, ↓Zdr, ↓Zds, ↓Zdt, ↓Zdu, ↓Zdv, ↓Zdw, ↓Zdx, ↓Zdy, ↓Zdz, ↓Zea, ↓Zeb, ↓Zec, ↓Zed, ↓Zee, ↓Zef, ↓Zeg, ↓Zeh, ↓Zei, ↓Zej, ↓Zek, ↓Zel, ↓Zem, ↓Zen, ↓Zeo, ↓Zep, ↓Zeq, ↓Zer, ↓Zes, ↓Zet, ↓Zeu, ↓Zev, ↓Zew, ↓Zex, ↓Zey, ↓Zez, ↓Zfa, ↓Zfb, ↓Zfc, ↓Zfd, ↓Zfe, ↓Zff, ↓Zfg, ↓Zfh, ↓Zfi, ↓Zfj, ↓Zfk, ↓Zfl, ↓Zfm, ↓Zfn, ↓Zfo, ↓Zfp, ↓Zfq, ↓Zfr, ↓Zfs, ↓Zft, ↓Zfu, ↓Zfv, ↓Zfw, ↓Zfx, ↓Zfy, ↓Zfz, ↓Zga, ↓Zgb, ↓Zgc, ↓Zgd, ↓Zge, ↓Zgf, ↓Zgg, ↓Zgh, ↓Zgi, ↓Zgj, ↓Zgk, ↓Zgl, ↓Zgm, ↓Zgn, ↓Zgo, ↓Zgp, ↓Zgq, ↓Zgr, ↓Zgs, ↓Zgt, ↓Zgu, ↓Zgv, ↓Zgw, ↓Zgx, ↓Zgy, ↓Zgz, ↓Zha, ↓Zhb, ↓Zhc, ↓Zhd, ↓Zhe, ↓Zhf, ↓Zhg, ↓Zhh, ↓Zhi, ↓Zhj, ↓Zhk, ↓Zhl, ↓Zhm, ↓Zhn, ↓Zho, ↓Zhp, ↓Zhq, ↓Zhr, ↓Zhs, ↓Zht, ↓Zhu, ↓Zhv, ↓Zhw, ↓Zhx, ↓Zhy, ↓Zhz, ↓Zia, ↓Zib, ↓Zic, ↓Zid, ↓Zie, ↓Zif, ↓Zig, ↓Zih, ↓Zii, ↓Zij, ↓Zik, reduceIte, if_true, if_false, Bool.false_eq_true, Bool.and_true, Bool.true_and, Bool.and_false, Bool.false_and, Bool.or_true, Bool.true_or, Bool.or_false, Bool.false_or, Int.cast_ofNat_Int, Zil, Zim, beq_self_eq_true, Int.reduceBEq, Int.reduceLT, Int.reduceLE, Int.reduceEq, Int.reduceNeg, Nat.reduceLT, Zin, Zio, Ziq, Zir, Zis, Zit, Ziu, Ziv, Ziw, Zix, Ziy, Ziz, Zja, Zjb, Zjc, Zjd, Zje, Zjf, Zjg, Zjh, Zji, Zjj, Zjk, Zjl, Zjm, Zjn, Zjo, Zjp, Zjq, Zjr, Zjs, Zjt, Zju, Zjv, Zjw, Zjx, Zjy, Zjz, Zka, Zkb, Zkc, Zkd, Zke, Zkf, Zkg, Zkh, Zki, Zkj, Zkk, Zkl, Zkm, Zkn, Zko, Zkp, List.lookup_nil, Zkq, Zkr, Option.map_some, Option.map_none, Option.bind_some, Option.bind_none, List.map_nil, List.map_cons, List.nil_append, List.cons_append, List.append_nil, List.length_cons, List.length_nil, Nat.reduceAdd, Nat.reduceLeDiff, Nat.reduceEqDiff, Nat.reduceBEq, decide_true, decide_false, Bool.not_true, Bool.not_false, Zks, Zkt, Zku, Zkv, Zkw, Zkx, Zky, Zkz, Zla, Zlb, Zlc, Zld, Zle, Zlf, List.getElem?_cons_zero, List.getElem?_cons_succ, Zlg, Zlh, Zli, Zlj, Zlk, Zll, Zlm, Zln, Zlo, Zlp, Zlq, Zlr, Zls, Zlt, Zlu, Zlv, Zlw, Zlx, Zly, setX, Zlz, Zma, Zmb, Int.ofNat_lt, Int.ofNat_le, List.length_map, eF]
  refine lc_mapZ (fun f => rowP w (kvec s f s.pv.length)) rfl (by simp only [wipeE, List.set_cons_zero, List.set_cons_succ]; rfl) (by omega) (fun f hf => ?_) ?_
  · simp -implicitDefEqProofs -dsimp only [↓Zaa, ↓Zab, ↓Zac, ↓Zad, ↓Zae, ↓Zaf, ↓Zag, ↓Zah, ↓Zai, ↓Zaj, ↓Zak, ↓Zal, ↓Zam, ↓Zan, ↓Zao, ↓Zap, ↓Zaq, ↓Zar, ↓Zas, ↓Zat, ↓Zau, ↓Zav, ↓Zaw, ↓Zax, ↓Zay, ↓Zaz, ↓Zba, ↓Zbb, ↓Zbc, ↓Zbd, ↓Zbe, ↓Zbf, ↓Zbg, ↓Zbh, ↓Zbi, ↓Zbj, ↓Zbk, ↓Zbl, ↓Zbm, ↓Zbn, ↓Zbo, ↓Zbp, ↓Zbq, ↓Zbr, ↓Zbs, ↓Zbt, ↓Zbu, ↓Zbv, ↓Zbw, ↓Zbx, ↓Zby, ↓Zbz, ↓Zca, ↓Zcb, ↓Zcc, ↓Zcd, ↓Zce, ↓Zcf, ↓Zcg, ↓Zch, ↓Zci, ↓Zcj, ↓Zck, ↓Zcl, ↓Zcm, ↓Zcn, ↓Zco, ↓Zcp, ↓Zcq, ↓Zcr, ↓Zcs, ↓Zct, ↓Zcu, ↓Zcv, ↓Zcw, ↓Zcx, ↓Zcy, ↓Zcz, ↓Zda, ↓Zdb, ↓Zdc, ↓Zdd, ↓Zde, ↓Zdf, ↓Zdg, ↓Zdh, ↓Zdi, ↓Zdj, ↓Zdk, ↓Zdl, ↓Zdm, ↓Zdn, ↓Zdo, ↓Zdp, ↓Zdq, ↓Zdr, ↓Zds, ↓Zdt, ↓Zdu, ↓Zdv, ↓Zdw, ↓Zdx, ↓Zdy, ↓Zdz, ↓Zea, ↓Zeb, ↓Zec, ↓Zed, ↓Zee, ↓Zef, ↓Zeg, ↓Zeh, ↓Zei, ↓Zej, ↓Zek, ↓Zel, ↓Zem, ↓Zen, ↓Zeo, ↓Zep, ↓Zeq, ↓Zer, ↓Zes, ↓Zet, ↓Zeu, ↓Zev, ↓Zew, ↓Zex, ↓Zey, ↓Zez, ↓Zfa, ↓Zfb, ↓Zfc, ↓Zfd, ↓Zfe, ↓Zff, ↓Zfg, ↓Zfh, ↓Zfi, ↓Zfj, ↓Zfk, ↓Zfl, ↓Zfm, ↓Zfn, ↓Zfo, ↓Zfp, ↓Zfq, ↓Zfr, ↓Zfs, ↓Zft, ↓Zfu, ↓Zfv, ↓Zfw, ↓Zfx, ↓Zfy, ↓Zfz, ↓Zga, ↓Zgb, ↓Zgc, ↓Zgd, ↓Zge, ↓Zgf, ↓Zgg, ↓Zgh, ↓Zgi, ↓Zgj, ↓Zgk, ↓Zgl, ↓Zgm, ↓Zgn, ↓Zgo, ↓Zgp, ↓Zgq, ↓Zgr, ↓Zgs, ↓Zgt, ↓Zgu, ↓Zgv, ↓Zgw, ↓Zgx, ↓Zgy, ↓Zgz, ↓Zha, ↓Zhb, ↓Zhc, ↓Zhd, ↓Zhe, ↓Zhf, ↓Zhg, ↓Zhh, ↓Zhi, ↓Zhj, ↓Zhk, ↓Zhl, ↓Zhm, ↓Zhn, ↓Zho, ↓Zhp, ↓Zhq, ↓Zhr, ↓Zhs, ↓Zht, ↓Zhu, ↓Zhv, ↓Zhw, ↓Zhx, ↓Zhy, ↓Zhz, ↓Zia, ↓Zib, ↓Zic, ↓Zid, ↓Zie, ↓Zif, ↓Zig, ↓Zih, ↓Zii, ↓Zij, ↓Zik, reduceIte, if_true, if_false, Bool.false_eq_true, Bool.and_true, Bool.true_and, Bool.and_false, Bool.false_and, Bool.or_true, Bool.true_or, Bool.or_false, Bool.false_or, Int.cast_ofNat_Int, Zil, Zim, beq_self_eq_true, Int.reduceBEq, Int.reduceLT, Int.reduceLE, Int.reduceEq, Int.reduceNeg, Nat.reduceLT, Zin, Zio, Ziq, Zir, Zis, Zit, Ziu, Ziv, Ziw, Zix, Ziy, Ziz, Zja, Zjb, Zjc, Zjd, Zje, Zjf, Zjg, Zjh, Zji, Zjj, Zjk, Zjl, Zjm, Zjn, Zjo, Zjp, Zjq, Zjr, Zjs, Zjt, Zju, Zjv, Zjw, Zjx, Zjy, Zjz, Zka, Zkb, Zkc, Zkd, Zke, Zkf, Zkg, Zkh, Zki, Zkj, Zkk, Zkl, Zkm, Zkn, Zko, Zkp, List.lookup_nil, Zkq, Zkr, Option.map_some, Option.map_none, Option.bind_some, Option.bind_none, List.map_nil, List.map_cons, List.nil_append, List.cons_append, List.append_nil, List.length_cons, List.length_nil, Nat.reduceAdd, Nat.reduceLeDiff, Nat.reduceEqDiff, Nat.reduceBEq, decide_true, decide_false, Bool.not_true, Bool.not_false, Zks, Zkt, Zku, Zkv, Zkw, Zkx, Zky, Zkz, Zla, Zlb, Zlc, Zld, Zle, Zlf, List.getElem?_cons_zero, List.getElem?_cons_succ, Zlg, Zlh, Zli, Zlj, Zlk, Zll, Zlm, Zln, Zlo, Zlp, Zlq, Zlr, Zls, Zlt, Zlu, Zlv, Zlw, Zlx, Zly, setX, Zlz, Zma, Zmb, Int.ofNat_lt, Int.ofNat_le, l_pairs (v := kvec s f s.pv.length) (show w ≤ 1000 by omega)]
    exact ⟨rfl, rfl, trivial⟩
  simp -implicitDefEqProofs -dsimp only [↓Zaa, ↓Zab, ↓Zac, ↓Zad, ↓Zae, ↓Zaf, ↓Zag, ↓Zah, ↓Zai, ↓Zaj, ↓Zak, ↓Zal, ↓Zam, ↓Zan, ↓Zao, ↓Zap, ↓Zaq, ↓Zar, ↓Zas, ↓Zat, ↓Zau, ↓Zav, ↓Zaw, ↓Zax, ↓Zay, ↓Zaz, ↓Zba, ↓Zbb, ↓Zbc, ↓Zbd, ↓Zbe, ↓Zbf, ↓Zbg, ↓Zbh, ↓Zbi, ↓Zbj, ↓Zbk, ↓Zbl, ↓Zbm, ↓Zbn, ↓Zbo, ↓Zbp, ↓Zbq, ↓Zbr, ↓Zbs, ↓Zbt, ↓Zbu, ↓Zbv, ↓Zbw, ↓Zbx, ↓Zby, ↓Zbz, ↓Zca, ↓Zcb, ↓Zcc, ↓Zcd, ↓Zce, ↓Zcf, ↓Zcg, ↓Zch, ↓Zci, ↓Zcj, ↓Zck, ↓Zcl, ↓Zcm, ↓Zcn, ↓Zco, ↓Zcp, ↓Zcq, ↓Zcr, ↓Zcs, ↓Zct, ↓Zcu, ↓Zcv, ↓Zcw, ↓Zcx, ↓Zcy, ↓Zcz, ↓Zda, ↓Zdb, ↓Zdc, ↓Zdd, ↓Zde, ↓Zdf, ↓Zdg, ↓Zdh, ↓Zdi, ↓Zdj, ↓Zdk, ↓Zdl, ↓Zdm, ↓Zdn, ↓Zdo, ↓Zdp, ↓Zdq, ↓Zdr, ↓Zds, ↓Zdt, ↓Zdu, ↓Zdv, ↓Zdw, ↓Zdx, ↓Zdy, ↓Zdz, ↓Zea, ↓Zeb, ↓Zec, ↓Zed, ↓Zee, ↓Zef, ↓Zeg, ↓Zeh, ↓Zei, ↓Zej, ↓Zek, ↓Zel, ↓Zem, ↓Zen, ↓Zeo, ↓Zep, ↓Zeq, ↓Zer, ↓Zes, ↓Zet, ↓Zeu, ↓Zev, ↓Zew, ↓Zex, ↓Zey, ↓Zez, ↓Zfa, ↓Zfb, ↓Zfc, ↓Zfd, ↓Zfe, ↓Zff, ↓Zfg, ↓Zfh, ↓Zfi, ↓Zfj, ↓Zfk, ↓Zfl, ↓Zfm, ↓Zfn, ↓Zfo, ↓Zfp, ↓Zfq, ↓Zfr, ↓Zfs, ↓Zft, ↓Zfu, ↓Zfv, ↓Zfw, ↓Zfx, ↓Zfy, ↓Zfz, ↓Zga, ↓Zgb, ↓Zgc, ↓Zgd, ↓Zge, ↓Zgf, ↓Zgg, ↓Zgh, ↓Zgi, ↓Zgj, ↓Zgk, ↓Zgl, ↓Zgm, ↓Zgn, ↓Zgo, ↓Zgp, ↓Zgq, ↓Zgr, ↓Zgs, ↓Zgt, ↓Zgu, ↓Zgv, ↓Zgw, ↓Zgx, ↓Zgy, ↓Zgz, ↓Zha, ↓Zhb, ↓Zhc, ↓Zhd, ↓Zhe, ↓Zhf, ↓Zhg, ↓Zhh, ↓Zhi, ↓Zhj, ↓Zhk, ↓Zhl, ↓Zhm, ↓Zhn, ↓Zho, ↓Zhp, ↓Zhq, ↓Zhr, ↓Zhs, ↓Zht, ↓Zhu, ↓Zhv, ↓Zhw, ↓Zhx, ↓Zhy, ↓Zhz, ↓Zia, ↓Zib, ↓Zic, ↓Zid, ↓Zie, ↓Zif, ↓Zig, ↓Zih, ↓Zii, ↓Zij, ↓Zik, reduceIte, if_true, if_false, Bool.false_eq_true, Bool.and_true, Bool.true_and, Bool.and_false, Bool.false_and, Bool.or_true, Bool.true_or, Bool.or_false, Bool.false_or, Int.cast_ofNat_Int, Zil, Zim, beq_self_eq_true, Int.reduceBEq, Int.reduceLT, Int.reduceLE, Int.reduceEq, Int.reduceNeg, Nat.reduceLT, Zin, Zio, Ziq, Zir, Zis, Zit, Ziu, Ziv, Ziw, Zix, Ziy, Ziz, Zja, Zjb, Zjc, Zjd, Zje, Zjf, Zjg, Zjh, Zji, Zjj, Zjk, Zjl, Zjm, Zjn, Zjo, Zjp, Zjq, Zjr, Zjs, Zjt, Zju, Zjv, Zjw, Zjx, Zjy, Zjz, Zka, Zkb, Zkc, Zkd, Zke, Zkf, Zkg, Zkh, Zki, Zkj, Zkk, Zkl, Zkm, Zkn, Zko, Zkp, List.lookup_nil, Zkq, Zkr, Option.map_some, Option.map_none, Option.bind_some, Option.bind_none, List.map_nil, List.map_cons, List.nil_append, List.cons_append, List.append_nil, List.length_cons, List.length_nil, Nat.reduceAdd, Nat.reduceLeDiff, Nat.reduceEqDiff, Nat.reduceBEq, decide_true, decide_false, Bool.not_true, Bool.not_false, Zks, Zkt, Zku, Zkv, Zkw, Zkx, Zky, Zkz, Zla, Zlb, Zlc, Zld, Zle, Zlf, List.getElem?_cons_zero, List.getElem?_cons_succ, Zlg, Zlh, Zli, Zlj, Zlk, Zll, Zlm, Zln, Zlo, Zlp, Zlq, Zlr, Zls, Zlt, Zlu, Zlv, Zlw, Zlx, Zly, setX, Zlz, Zma, Zmb, Int.ofNat_lt, Int.ofNat_le, List.length_map, hsF]
  refine for_r0 (fun i e => ∃ x9 x12 x13, e = [.val (.ro (ns.map D.int)), .val (.lst [.int a, .int b, .int c, .int d]), .val (.int h), .val (.int w), .val (.tup (vec h fun i => rowP w (t i))), .val (mD h w t), .val (.tup (F.map fun f => rowT w (kvec s f s.pv.length))), .val (.tup (pvD s.pv)), .val (.lst (F.map fun (i : Nat) => D.int (i : Int))), x9, .val (.lst (F.map fun f => rowP w (kvec s f s.pv.length))), .un, x12, x13, .un, .un, .un, .un, .un] ∧ Fr1 x9 ∧ Fr1 x12 ∧ Fr1 x13) ?_ ?_ ?_
  · exact ⟨.un, .un, .un, rfl, .un, .un, .un⟩
  · rintro i e hi ⟨x9, x12, x13, rfl, y9, y12, y13⟩
    simp -implicitDefEqProofs -dsimp only [↓Zaa, ↓Zab, ↓Zac, ↓Zad, ↓Zae, ↓Zaf, ↓Zag, ↓Zah, ↓Zai, ↓Zaj, ↓Zak, ↓Zal, ↓Zam, ↓Zan, ↓Zao, ↓Zap, ↓Zaq, ↓Zar, ↓Zas, ↓Zat, ↓Zau, ↓Zav, ↓Zaw, ↓Zax, ↓Zay, ↓Zaz, ↓Zba, ↓Zbb, ↓Zbc, ↓Zbd, ↓Zbe, ↓Zbf, ↓Zbg, ↓Zbh, ↓Zbi, ↓Zbj, ↓Zbk, ↓Zbl, ↓Zbm, ↓Zbn, ↓Zbo, ↓Zbp, ↓Zbq, ↓Zbr, ↓Zbs, ↓Zbt, ↓Zbu, ↓Zbv, ↓Zbw, ↓Zbx, ↓Zby, ↓Zbz, ↓Zca, ↓Zcb, ↓Zcc, ↓Zcd, ↓Zce, ↓Zcf, ↓Zcg, ↓Zch, ↓Zci, ↓Zcj, ↓Zck, ↓Zcl, ↓Zcm, ↓Zcn, ↓Zco, ↓Zcp, ↓Zcq, ↓Zcr, ↓Zcs, ↓Zct, ↓Zcu, ↓Zcv, ↓Zcw, ↓Zcx, ↓Zcy, ↓Zcz, ↓Zda, ↓Zdb, ↓Zdc, ↓Zdd, ↓Zde, ↓Zdf, ↓Zdg, ↓Zdh, ↓Zdi, ↓Zdj, ↓Zdk, ↓Zdl, ↓Zdm, ↓Zdn, ↓Zdo, ↓Zdp, ↓Zdq, ↓Zdr, ↓Zds, ↓Zdt, ↓Zdu, ↓Zdv, ↓Zdw, ↓Zdx, ↓Zdy, ↓Zdz, ↓Zea, ↓Zeb, ↓Zec, ↓Zed, ↓Zee, ↓Zef, ↓Zeg, ↓Zeh, ↓Zei, ↓Zej, ↓Zek, ↓Zel, ↓Zem, ↓Zen, ↓Zeo, ↓Zep, ↓Zeq, ↓Zer, ↓Zes, ↓Zet, ↓Zeu, ↓Zev, ↓Zew, ↓Zex, ↓Zey, ↓Zez, ↓Zfa, ↓Zfb, ↓Zfc, ↓Zfd, ↓Zfe, ↓Zff, ↓Zfg, ↓Zfh, ↓Zfi, ↓Zfj, ↓Zfk, ↓Zfl, ↓Zfm, ↓Zfn, ↓Zfo, ↓Zfp, ↓Zfq, ↓Zfr, ↓Zfs, ↓Zft, ↓Zfu, ↓Zfv, ↓Zfw, ↓Zfx, ↓Zfy, ↓Zfz, ↓Zga, ↓Zgb, ↓Zgc, ↓Zgd, ↓Zge, ↓Zgf, ↓Zgg, ↓Zgh, ↓Zgi, ↓Zgj, ↓Zgk, ↓Zgl, ↓Zgm, ↓Zgn, ↓Zgo, ↓Zgp, ↓Zgq, ↓Zgr, ↓Zgs, ↓Zgt, ↓Zgu, ↓Zgv, ↓Zgw, ↓Zgx, ↓Zgy, ↓Zgz, ↓Zha, ↓Zhb, ↓Zhc, ↓Zhd, ↓Zhe, ↓Zhf, ↓Zhg, ↓Zhh, ↓Zhi, ↓Zhj, ↓Zhk, ↓Zhl, ↓Zhm, ↓Zhn, ↓Zho, ↓Zhp, ↓Zhq, ↓Zhr, ↓Zhs, ↓Zht, ↓Zhu, ↓Zhv, ↓Zhw, ↓Zhx, ↓Zhy, ↓Zhz, ↓Zia, ↓Zib, ↓Zic, ↓Zid, ↓Zie, ↓Zif, ↓Zig, ↓Zih, ↓Zii, ↓Zij, ↓Zik, reduceIte, if_true, if_false, Bool.false_eq_true, Bool.and_true, Bool.true_and, Bool.and_false, Bool.false_and, Bool.or_true, Bool.true_or, Bool.or_false, Bool.false_or, Int.cast_ofNat_Int, Zil, Zim, beq_self_eq_true, Int.reduceBEq, Int.reduceLT, Int.reduceLE, Int.reduceEq, Int.reduceNeg, Nat.reduceLT, Zin, Zio, Ziq, Zir, Zis, Zit, Ziu, Ziv, Ziw, Zix, Ziy, Ziz, Zja, Zjb, Zjc, Zjd, Zje, Zjf, Zjg, Zjh, Zji, Zjj, Zjk, Zjl, Zjm, Zjn, Zjo, Zjp, Zjq, Zjr, Zjs, Zjt, Zju, Zjv, Zjw, Zjx, Zjy, Zjz, Zka, Zkb, Zkc, Zkd, Zke, Zkf, Zkg, Zkh, Zki, Zkj, Zkk, Zkl, Zkm, Zkn, Zko, Zkp, List.lookup_nil, Zkq, Zkr, Option.map_some, Option.map_none, Option.bind_some, Option.bind_none, List.map_nil, List.map_cons, List.nil_append, List.cons_append, List.append_nil, List.length_cons, List.length_nil, Nat.reduceAdd, Nat.reduceLeDiff, Nat.reduceEqDiff, Nat.reduceBEq, decide_true, decide_false, Bool.not_true, Bool.not_false, Zks, Zkt, Zku, Zkv, Zkw, Zkx, Zky, Zkz, Zla, Zlb, Zlc, Zld, Zle, Zlf, List.getElem?_cons_zero, List.getElem?_cons_succ, Zlg, Zlh, Zli, Zlj, Zlk, Zll, Zlm, Zln, Zlo, Zlp, Zlq, Zlr, Zls, Zlt, Zlu, Zlv, Zlw, Zlx, Zly, setX, Zlz, Zma, Zmb, Int.ofNat_lt, Int.ofNat_le, y12, map_at hi, List.length_map, hsF]
    refine for_r0 (fun k e => ∃ x9, e = [.val (.ro (ns.map D.int)), .val (.lst [.int a, .int b, .int c, .int d]), .val (.int h), .val (.int w), .val (.tup (vec h fun i => rowP w (t i))), .val (mD h w t), .val (.tup (F.map fun f => rowT w (kvec s f s.pv.length))), .val (.tup (pvD s.pv)), .val (.lst (F.map fun (i : Nat) => D.int (i : Int))), x9, .val (.lst (F.map fun f => rowP w (kvec s f s.pv.length))), .un, .val (.int i), x13, .un, .un, .un, .un, .un] ∧ Fr1 x9) ?_ ?_ ?_
    · exact ⟨x9, rfl, y9⟩
    · rintro k e hk ⟨x9, rfl, y9⟩
      obtain ⟨f1, f2⟩ := hFm _ (hFk k hk)
      have kv := R.kout (f := F.getD i 0) f2 (Nat.le_refl _)
      by_cases hki : k = i
      · rw [if_pos (by rw [hki])] at kv
        have e1 : ((k : Int) == (i : Int)) = true := by simp; omega
        have ne1 : pEq true (pD (kvec s (F.getD i 0) s.pv.length (F.getD k 0))) (.tup [.int 1, .int 1]) = some (.d (.bl false)) := by rw [kv]; exact ne_self
        simp -implicitDefEqProofs -dsimp only [↓Zaa, ↓Zab, ↓Zac, ↓Zad, ↓Zae, ↓Zaf, ↓Zag, ↓Zah, ↓Zai, ↓Zaj, ↓Zak, ↓Zal, ↓Zam, ↓Zan, ↓Zao, ↓Zap, ↓Zaq, ↓Zar, ↓Zas, ↓Zat, ↓Zau, ↓Zav, ↓Zaw, ↓Zax, ↓Zay, ↓Zaz, ↓Zba, ↓Zbb, ↓Zbc, ↓Zbd, ↓Zbe, ↓Zbf, ↓Zbg, ↓Zbh, ↓Zbi, ↓Zbj, ↓Zbk, ↓Zbl, ↓Zbm, ↓Zbn, ↓Zbo, ↓Zbp, ↓Zbq, ↓Zbr, ↓Zbs, ↓Zbt, ↓Zbu, ↓Zbv, ↓Zbw, ↓Zbx, ↓Zby, ↓Zbz, ↓Zca, ↓Zcb, ↓Zcc, ↓Zcd, ↓Zce, ↓Zcf, ↓Zcg, ↓Zch, ↓Zci, ↓Zcj, ↓Zck, ↓Zcl, ↓Zcm, ↓Zcn, ↓Zco, ↓Zcp, ↓Zcq, ↓Zcr, ↓Zcs, ↓Zct, ↓Zcu, ↓Zcv, ↓Zcw, ↓Zcx, ↓Zcy, ↓Zcz, ↓Zda, ↓Zdb, ↓Zdc, ↓Zdd, ↓Zde, ↓Zdf, ↓Zdg, ↓Zdh, ↓Zdi, ↓Zdj, ↓Zdk, ↓Zdl, ↓Zdm, ↓Zdn, ↓Zdo, ↓Zdp, ↓Zdq, ↓Zdr, ↓Zds, ↓Zdt, ↓Zdu, ↓Zdv, ↓Zdw, ↓Zdx, ↓Zdy, ↓Zdz, ↓Zea, ↓Zeb, ↓Zec, ↓Zed, ↓Zee, ↓Zef, ↓Zeg, ↓Zeh, ↓Zei, ↓Zej, ↓Zek, ↓Zel, ↓Zem, ↓Zen, ↓Zeo, ↓Zep, ↓Zeq, ↓Zer, ↓Zes, ↓Zet, ↓Zeu, ↓Zev, ↓Zew, ↓Zex, ↓Zey, ↓Zez, ↓Zfa, ↓Zfb, ↓Zfc, ↓Zfd, ↓Zfe, ↓Zff, ↓Zfg, ↓Zfh, ↓Zfi, ↓Zfj, ↓Zfk, ↓Zfl, ↓Zfm, ↓Zfn, ↓Zfo, ↓Zfp, ↓Zfq, ↓Zfr, ↓Zfs, ↓Zft, ↓Zfu, ↓Zfv, ↓Zfw, ↓Zfx, ↓Zfy, ↓Zfz, ↓Zga, ↓Zgb, ↓Zgc, ↓Zgd, ↓Zge, ↓Zgf, ↓Zgg, ↓Zgh, ↓Zgi, ↓Zgj, ↓Zgk, ↓Zgl, ↓Zgm, ↓Zgn, ↓Zgo, ↓Zgp, ↓Zgq, ↓Zgr, ↓Zgs, ↓Zgt, ↓Zgu, ↓Zgv, ↓Zgw, ↓Zgx, ↓Zgy, ↓Zgz, ↓Zha, ↓Zhb, ↓Zhc, ↓Zhd, ↓Zhe, ↓Zhf, ↓Zhg, ↓Zhh, ↓Zhi, ↓Zhj, ↓Zhk, ↓Zhl, ↓Zhm, ↓Zhn, ↓Zho, ↓Zhp, ↓Zhq, ↓Zhr, ↓Zhs, ↓Zht, ↓Zhu, ↓Zhv, ↓Zhw, ↓Zhx, ↓Zhy, ↓Zhz, ↓Zia, ↓Zib, ↓Zic, ↓Zid, ↓Zie, ↓Zif, ↓Zig, ↓Zih, ↓Zii, ↓Zij, ↓Zik, reduceIte, if_true, if_false, Bool.false_eq_true, Bool.and_true, Bool.true_and, Bool.and_false, Bool.false_and, Bool.or_true, Bool.true_or, Bool.or_false, Bool.false_or, Int.cast_ofNat_Int, Zil, Zim, beq_self_eq_true, Int.reduceBEq, Int.reduceLT, Int.reduceLE, Int.reduceEq, Int.reduceNeg, Nat.reduceLT, Zin, Zio, Ziq, Zir, Zis, Zit, Ziu, Ziv, Ziw, Zix, Ziy, Ziz, Zja, Zjb, Zjc, Zjd, Zje, Zjf, Zjg, Zjh, Zji, Zjj, Zjk, Zjl, Zjm, Zjn, Zjo, Zjp, Zjq, Zjr, Zjs, Zjt, Zju, Zjv, Zjw, Zjx, Zjy, Zjz, Zka, Zkb, Zkc, Zkd, Zke, Zkf, Zkg, Zkh, Zki, Zkj, Zkk, Zkl, Zkm, Zkn, Zko, Zkp, List.lookup_nil, Zkq, Zkr, Option.map_some, Option.map_none, Option.bind_some, Option.bind_none, List.map_nil, List.map_cons, List.nil_append, List.cons_append, List.append_nil, List.length_cons, List.length_nil, Nat.reduceAdd, Nat.reduceLeDiff, Nat.reduceEqDiff, Nat.reduceBEq, decide_true, decide_false, Bool.not_true, Bool.not_false, Zks, Zkt, Zku, Zkv, Zkw, Zkx, Zky, Zkz, Zla, Zlb, Zlc, Zld, Zle, Zlf, List.getElem?_cons_zero, List.getElem?_cons_succ, Zlg, Zlh, Zli, Zlj, Zlk, Zll, Zlm, Zln, Zlo, Zlp, Zlq, Zlr, Zls, Zlt, Zlu, Zlv, Zlw, Zlx, Zly, setX, Zlz, Zma, Zmb, Int.ofNat_lt, Int.ofNat_le, y9, map_at hk, map_at hi, vec_atI f1, e1, ne1]
        exact ⟨_, rfl, .val⟩
      · have nF : ¬ F.getD k 0 = F.getD i 0 := fun e => hki (by
          have nd : F.Nodup := by rw [← hF]; exact List.Nodup.sublist List.filter_sublist List.nodup_range
          rw [List.getD_eq_getElem?_getD, List.getD_eq_getElem?_getD, List.getElem?_eq_getElem hk, List.getElem?_eq_getElem hi] at e
          have e : F[k] = F[i] := e
          have g := List.pairwise_iff_getElem.mp nd
          rcases Nat.lt_trichotomy k i with z | z | z
          · exact (g k i hk hi z e).elim
          · exact z
          · exact (g i k hi hk z e.symm).elim)
        rw [if_neg nF] at kv
        have e1 : ((k : Int) == (i : Int)) = false := by simp; omega
        have ne1 : pEq true (pD (kvec s (F.getD i 0) s.pv.length (F.getD k 0))) (.tup [.int 0, .int 1]) = some (.d (.bl false)) := by rw [kv]; exact ne_self
        simp -implicitDefEqProofs -dsimp only [↓Zaa, ↓Zab, ↓Zac, ↓Zad, ↓Zae, ↓Zaf, ↓Zag, ↓Zah, ↓Zai, ↓Zaj, ↓Zak, ↓Zal, ↓Zam, ↓Zan, ↓Zao, ↓Zap, ↓Zaq, ↓Zar, ↓Zas, ↓Zat, ↓Zau, ↓Zav, ↓Zaw, ↓Zax, ↓Zay, ↓Zaz, ↓Zba, ↓Zbb, ↓Zbc, ↓Zbd, ↓Zbe, ↓Zbf, ↓Zbg, ↓Zbh, ↓Zbi, ↓Zbj, ↓Zbk, ↓Zbl, ↓Zbm, ↓Zbn, ↓Zbo, ↓Zbp, ↓Zbq, ↓Zbr, ↓Zbs, ↓Zbt, ↓Zbu, ↓Zbv, ↓Zbw, ↓Zbx, ↓Zby, ↓Zbz, ↓Zca, ↓Zcb, ↓Zcc, ↓Zcd, ↓Zce, ↓Zcf, ↓Zcg, ↓Zch, ↓Zci, ↓Zcj, ↓Zck, ↓Zcl, ↓Zcm, ↓Zcn, ↓Zco, ↓Zcp, ↓Zcq, ↓Zcr, ↓Zcs, ↓Zct, ↓Zcu, ↓Zcv, ↓Zcw, ↓Zcx, ↓Zcy, ↓Zcz, ↓Zda, ↓Zdb, ↓Zdc, ↓Zdd, ↓Zde, ↓Zdf, ↓Zdg, ↓Zdh, ↓Zdi, ↓Zdj, ↓Zdk, ↓Zdl, ↓Zdm, ↓Zdn, ↓Zdo, ↓Zdp, ↓Zdq, ↓Zdr, ↓Zds, ↓Zdt, ↓Zdu, ↓Zdv, ↓Zdw, ↓Zdx, ↓Zdy, ↓Zdz, ↓Zea, ↓Zeb, ↓Zec, ↓Zed, ↓Zee, ↓Zef, ↓Zeg, ↓Zeh, ↓Zei, ↓Zej, ↓Zek, ↓Zel, ↓Zem, ↓Zen, ↓Zeo, ↓Zep, ↓Zeq, ↓Zer, ↓Zes, ↓Zet, ↓Zeu, ↓Zev, ↓Zew, ↓Zex, ↓Zey, ↓Zez, ↓Zfa, ↓Zfb, ↓Zfc, ↓Zfd, ↓Zfe, ↓Zff, ↓Zfg, ↓Zfh, ↓Zfi, ↓Zfj, ↓Zfk, ↓Zfl, ↓Zfm, ↓Zfn, ↓Zfo, ↓Zfp, ↓Zfq, ↓Zfr, ↓Zfs, ↓Zft, ↓Zfu, ↓Zfv, ↓Zfw, ↓Zfx, ↓Zfy, ↓Zfz, ↓Zga, ↓Zgb, ↓Zgc, ↓Zgd, ↓Zge, ↓Zgf, ↓Zgg, ↓Zgh, ↓Zgi, ↓Zgj, ↓Zgk, ↓Zgl, ↓Zgm, ↓Zgn, ↓Zgo, ↓Zgp, ↓Zgq, ↓Zgr, ↓Zgs, ↓Zgt, ↓Zgu, ↓Zgv, ↓Zgw, ↓Zgx, ↓Zgy, ↓Zgz, ↓Zha, ↓Zhb, ↓Zhc, ↓Zhd, ↓Zhe, ↓Zhf, ↓Zhg, ↓Zhh, ↓Zhi, ↓Zhj, ↓Zhk, ↓Zhl, ↓Zhm, ↓Zhn, ↓Zho, ↓Zhp, ↓Zhq, ↓Zhr, ↓Zhs, ↓Zht, ↓Zhu, ↓Zhv, ↓Zhw, ↓Zhx, ↓Zhy, ↓Zhz, ↓Zia, ↓Zib, ↓Zic, ↓Zid, ↓Zie, ↓Zif, ↓Zig, ↓Zih, ↓Zii, ↓Zij, ↓Zik, reduceIte, if_true, if_false, Bool.false_eq_true, Bool.and_true, Bool.true_and, Bool.and_false, Bool.false_and, Bool.or_true, Bool.true_or, Bool.or_false, Bool.false_or, Int.cast_ofNat_Int, Zil, Zim, beq_self_eq_true, Int.reduceBEq, Int.reduceLT, Int.reduceLE, Int.reduceEq, Int.reduceNeg, Nat.reduceLT, Zin, Zio, Ziq, Zir, Zis, Zit, Ziu, Ziv, Ziw, Zix, Ziy, Ziz, Zja, Zjb, Zjc, Zjd, Zje, Zjf, Zjg, Zjh, Zji, Zjj, Zjk, Zjl, Zjm, Zjn, Zjo, Zjp, Zjq, Zjr, Zjs, Zjt, Zju, Zjv, Zjw, Zjx, Zjy, Zjz, Zka, Zkb, Zkc, Zkd, Zke, Zkf, Zkg, Zkh, Zki, Zkj, Zkk, Zkl, Zkm, Zkn, Zko, Zkp, List.lookup_nil, Zkq, Zkr, Option.map_some, Option.map_none, Option.bind_some, Option.bind_none, List.map_nil, List.map_cons, List.nil_append, List.cons_append, List.append_nil, List.length_cons, List.length_nil, Nat.reduceAdd, Nat.reduceLeDiff, Nat.reduceEqDiff, Nat.reduceBEq, decide_true, decide_false, Bool.not_true, Bool.not_false, Zks, Zkt, Zku, Zkv, Zkw, Zkx, Zky, Zkz, Zla, Zlb, Zlc, Zld, Zle, Zlf, List.getElem?_cons_zero, List.getElem?_cons_succ, Zlg, Zlh, Zli, Zlj, Zlk, Zll, Zlm, Zln, Zlo, Zlp, Zlq, Zlr, Zls, Zlt, Zlu, Zlv, Zlw, Zlx, Zly, setX, Zlz, Zma, Zmb, Int.ofNat_lt, Int.ofNat_le, y9, map_at hk, map_at hi, vec_atI f1, e1, ne1]
        exact ⟨_, rfl, .val⟩
    · rintro e ⟨x9, rfl, y9⟩
      obtain ⟨f1, f2⟩ := hFm _ (hFk i hi)
      have kk := R.kker f1 f2
      simp -implicitDefEqProofs -dsimp only [↓Zaa, ↓Zab, ↓Zac, ↓Zad, ↓Zae, ↓Zaf, ↓Zag, ↓Zah, ↓Zai, ↓Zaj, ↓Zak, ↓Zal, ↓Zam, ↓Zan, ↓Zao, ↓Zap, ↓Zaq, ↓Zar, ↓Zas, ↓Zat, ↓Zau, ↓Zav, ↓Zaw, ↓Zax, ↓Zay, ↓Zaz, ↓Zba, ↓Zbb, ↓Zbc, ↓Zbd, ↓Zbe, ↓Zbf, ↓Zbg, ↓Zbh, ↓Zbi, ↓Zbj, ↓Zbk, ↓Zbl, ↓Zbm, ↓Zbn, ↓Zbo, ↓Zbp, ↓Zbq, ↓Zbr, ↓Zbs, ↓Zbt, ↓Zbu, ↓Zbv, ↓Zbw, ↓Zbx, ↓Zby, ↓Zbz, ↓Zca, ↓Zcb, ↓Zcc, ↓Zcd, ↓Zce, ↓Zcf, ↓Zcg, ↓Zch, ↓Zci, ↓Zcj, ↓Zck, ↓Zcl, ↓Zcm, ↓Zcn, ↓Zco, ↓Zcp, ↓Zcq, ↓Zcr, ↓Zcs, ↓Zct, ↓Zcu, ↓Zcv, ↓Zcw, ↓Zcx, ↓Zcy, ↓Zcz, ↓Zda, ↓Zdb, ↓Zdc, ↓Zdd, ↓Zde, ↓Zdf, ↓Zdg, ↓Zdh, ↓Zdi, ↓Zdj, ↓Zdk, ↓Zdl, ↓Zdm, ↓Zdn, ↓Zdo, ↓Zdp, ↓Zdq, ↓Zdr, ↓Zds, ↓Zdt, ↓Zdu, ↓Zdv, ↓Zdw, ↓Zdx, ↓Zdy, ↓Zdz, ↓Zea, ↓Zeb, ↓Zec, ↓Zed, ↓Zee, ↓Zef, ↓Zeg, ↓Zeh, ↓Zei, ↓Zej, ↓Zek, ↓Zel, ↓Zem, ↓Zen, ↓Zeo, ↓Zep, ↓Zeq, ↓Zer, ↓Zes, ↓Zet, ↓Zeu, ↓Zev, ↓Zew, ↓Zex, ↓Zey, ↓Zez, ↓Zfa, ↓Zfb, ↓Zfc, ↓Zfd, ↓Zfe, ↓Zff, ↓Zfg, ↓Zfh, ↓Zfi, ↓Zfj, ↓Zfk, ↓Zfl, ↓Zfm, ↓Zfn, ↓Zfo, ↓Zfp, ↓Zfq, ↓Zfr, ↓Zfs, ↓Zft, ↓Zfu, ↓Zfv, ↓Zfw, ↓Zfx, ↓Zfy, ↓Zfz, ↓Zga, ↓Zgb, ↓Zgc, ↓Zgd, ↓Zge, ↓Zgf, ↓Zgg, ↓Zgh, ↓Zgi, ↓Zgj, ↓Zgk, ↓Zgl, ↓Zgm, ↓Zgn, ↓Zgo, ↓Zgp, ↓Zgq, ↓Zgr, ↓Zgs, ↓Zgt, ↓Zgu, ↓Zgv, ↓Zgw, ↓Zgx, ↓Zgy, ↓Zgz, ↓Zha, ↓Zhb, ↓Zhc, ↓Zhd, ↓Zhe, ↓Zhf, ↓Zhg, ↓Zhh, ↓Zhi, ↓Zhj, ↓Zhk, ↓Zhl, ↓Zhm, ↓Zhn, ↓Zho, ↓Zhp, ↓Zhq, ↓Zhr, ↓Zhs, ↓Zht, ↓Zhu, ↓Zhv, ↓Zhw, ↓Zhx, ↓Zhy, ↓Zhz, ↓Zia, ↓Zib, ↓Zic, ↓Zid, ↓Zie, ↓Zif, ↓Zig, ↓Zih, ↓Zii, ↓Zij, ↓Zik, reduceIte, if_true, if_false, Bool.false_eq_true, Bool.and_true, Bool.true_and, Bool.and_false, Bool.false_and, Bool.or_true, Bool.true_or, Bool.or_false, Bool.false_or, Int.cast_ofNat_Int, Zil, Zim, beq_self_eq_true, Int.reduceBEq, Int.reduceLT, Int.reduceLE, Int.reduceEq, Int.reduceNeg, Nat.reduceLT, Zin, Zio, Ziq, Zir, Zis, Zit, Ziu, Ziv, Ziw, Zix, Ziy, Ziz, Zja, Zjb, Zjc, Zjd, Zje, Zjf, Zjg, Zjh, Zji, Zjj, Zjk, Zjl, Zjm, Zjn, Zjo, Zjp, Zjq, Zjr, Zjs, Zjt, Zju, Zjv, Zjw, Zjx, Zjy, Zjz, Zka, Zkb, Zkc, Zkd, Zke, Zkf, Zkg, Zkh, Zki, Zkj, Zkk, Zkl, Zkm, Zkn, Zko, Zkp, List.lookup_nil, Zkq, Zkr, Option.map_some, Option.map_none, Option.bind_some, Option.bind_none, List.map_nil, List.map_cons, List.nil_append, List.cons_append, List.append_nil, List.length_cons, List.length_nil, Nat.reduceAdd, Nat.reduceLeDiff, Nat.reduceEqDiff, Nat.reduceBEq, decide_true, decide_false, Bool.not_true, Bool.not_false, Zks, Zkt, Zku, Zkv, Zkw, Zkx, Zky, Zkz, Zla, Zlb, Zlc, Zld, Zle, Zlf, List.getElem?_cons_zero, List.getElem?_cons_succ, Zlg, Zlh, Zli, Zlj, Zlk, Zll, Zlm, Zln, Zlo, Zlp, Zlq, Zlr, Zls, Zlt, Zlu, Zlv, Zlw, Zlx, Zly, setX, Zlz, Zma, Zmb, Int.ofNat_lt, Int.ofNat_le]
      refine for_n (fun k e => ∃ x13, e = [.val (.ro (ns.map D.int)), .val (.lst [.int a, .int b, .int c, .int d]), .val (.int h), .val (.int w), .val (.tup (vec h fun i => rowP w (t i))), .val (mD h w t), .val (.tup (F.map fun f => rowT w (kvec s f s.pv.length))), .val (.tup (pvD s.pv)), .val (.lst (F.map fun (i : Nat) => D.int (i : Int))), x9, .val (.lst (F.map fun f => rowP w (kvec s f s.pv.length))), .un, .val (.int i), x13, .un, .un, .un, .un, .un] ∧ Fr1 x13) ?_ ?_ ?_
      · exact ⟨x13, rfl, y13⟩
      · rintro k e hk ⟨x13, rfl, y13⟩
        have dot := l_dot (w := w) (u := t k) (v := kvec s (F.getD i 0) s.pv.length) (j := 20) (k := 12500) (fun j _ => ht k j) (fun j _ => ksz _ (hFk i hi) j) (by omega) (by omega) (A := rowP w (t k)) (B := rowP w (kvec s (F.getD i 0) s.pv.length)) (fun _ => Zjh) (fun _ => Zjh) (by rw [Zjj, vec_len])
        rw [kk k hk] at dot
        have ne1 : pEq true (pD 0) (.tup [.int 0, .int 1]) = some (.d (.bl false)) := ne_self
        simp -implicitDefEqProofs -dsimp only [↓Zaa, ↓Zab, ↓Zac, ↓Zad, ↓Zae, ↓Zaf, ↓Zag, ↓Zah, ↓Zai, ↓Zaj, ↓Zak, ↓Zal, ↓Zam, ↓Zan, ↓Zao, ↓Zap, ↓Zaq, ↓Zar, ↓Zas, ↓Zat, ↓Zau, ↓Zav, ↓Zaw, ↓Zax, ↓Zay, ↓Zaz, ↓Zba, ↓Zbb, ↓Zbc, ↓Zbd, ↓Zbe, ↓Zbf, ↓Zbg, ↓Zbh, ↓Zbi, ↓Zbj, ↓Zbk, ↓Zbl, ↓Zbm, ↓Zbn, ↓Zbo, ↓Zbp, ↓Zbq, ↓Zbr, ↓Zbs, ↓Zbt, ↓Zbu, ↓Zbv, ↓Zbw, ↓Zbx, ↓Zby, ↓Zbz, ↓Zca, ↓Zcb, ↓Zcc, ↓Zcd, ↓Zce, ↓Zcf, ↓Zcg, ↓Zch, ↓Zci, ↓Zcj, ↓Zck, ↓Zcl, ↓Zcm, ↓Zcn, ↓Zco, ↓Zcp, ↓Zcq, ↓Zcr, ↓Zcs, ↓Zct, ↓Zcu, ↓Zcv, ↓Zcw, ↓Zcx, ↓Zcy, ↓Zcz, ↓Zda, ↓Zdb, ↓Zdc, ↓Zdd, ↓Zde, ↓Zdf, ↓Zdg, ↓Zdh, ↓Zdi, ↓Zdj, ↓Zdk, ↓Zdl, ↓Zdm, ↓Zdn, ↓Zdo, ↓Zdp, ↓Zdq, ↓Zdr, ↓Zds, ↓Zdt, ↓Zdu, ↓Zdv, ↓Zdw, ↓Zdx, ↓Zdy, ↓Zdz, ↓Zea, ↓Zeb, ↓Zec, ↓Zed, ↓Zee, ↓Zef, ↓Zeg, ↓Zeh, ↓Zei, ↓Zej, ↓Zek, ↓Zel, ↓Zem, ↓Zen, ↓Zeo, ↓Zep, ↓Zeq, ↓Zer, ↓Zes, ↓Zet, ↓Zeu, ↓Zev, ↓Zew, ↓Zex, ↓Zey, ↓Zez, ↓Zfa, ↓Zfb, ↓Zfc, ↓Zfd, ↓Zfe, ↓Zff, ↓Zfg, ↓Zfh, ↓Zfi, ↓Zfj, ↓Zfk, ↓Zfl, ↓Zfm, ↓Zfn, ↓Zfo, ↓Zfp, ↓Zfq, ↓Zfr, ↓Zfs, ↓Zft, ↓Zfu, ↓Zfv, ↓Zfw, ↓Zfx, ↓Zfy, ↓Zfz, ↓Zga, ↓Zgb, ↓Zgc, ↓Zgd, ↓Zge, ↓Zgf, ↓Zgg, ↓Zgh, ↓Zgi, ↓Zgj, ↓Zgk, ↓Zgl, ↓Zgm, ↓Zgn, ↓Zgo, ↓Zgp, ↓Zgq, ↓Zgr, ↓Zgs, ↓Zgt, ↓Zgu, ↓Zgv, ↓Zgw, ↓Zgx, ↓Zgy, ↓Zgz, ↓Zha, ↓Zhb, ↓Zhc, ↓Zhd, ↓Zhe, ↓Zhf, ↓Zhg, ↓Zhh, ↓Zhi, ↓Zhj, ↓Zhk, ↓Zhl, ↓Zhm, ↓Zhn, ↓Zho, ↓Zhp, ↓Zhq, ↓Zhr, ↓Zhs, ↓Zht, ↓Zhu, ↓Zhv, ↓Zhw, ↓Zhx, ↓Zhy, ↓Zhz, ↓Zia, ↓Zib, ↓Zic, ↓Zid, ↓Zie, ↓Zif, ↓Zig, ↓Zih, ↓Zii, ↓Zij, ↓Zik, reduceIte, if_true, if_false, Bool.false_eq_true, Bool.and_true, Bool.true_and, Bool.and_false, Bool.false_and, Bool.or_true, Bool.true_or, Bool.or_false, Bool.false_or, Int.cast_ofNat_Int, Zil, Zim, beq_self_eq_true, Int.reduceBEq, Int.reduceLT, Int.reduceLE, Int.reduceEq, Int.reduceNeg, Nat.reduceLT, Zin, Zio, Ziq, Zir, Zis, Zit, Ziu, Ziv, Ziw, Zix, Ziy, Ziz, Zja, Zjb, Zjc, Zjd, Zje, Zjf, Zjg, Zjh, Zji, Zjj, Zjk, Zjl, Zjm, Zjn, Zjo, Zjp, Zjq, Zjr, Zjs, Zjt, Zju, Zjv, Zjw, Zjx, Zjy, Zjz, Zka, Zkb, Zkc, Zkd, Zke, Zkf, Zkg, Zkh, Zki, Zkj, Zkk, Zkl, Zkm, Zkn, Zko, Zkp, List.lookup_nil, Zkq, Zkr, Option.map_some, Option.map_none, Option.bind_some, Option.bind_none, List.map_nil, List.map_cons, List.nil_append, List.cons_append, List.append_nil, List.length_cons, List.length_nil, Nat.reduceAdd, Nat.reduceLeDiff, Nat.reduceEqDiff, Nat.reduceBEq, decide_true, decide_false, Bool.not_true, Bool.not_false, Zks, Zkt, Zku, Zkv, Zkw, Zkx, Zky, Zkz, Zla, Zlb, Zlc, Zld, Zle, Zlf, List.getElem?_cons_zero, List.getElem?_cons_succ, Zlg, Zlh, Zli, Zlj, Zlk, Zll, Zlm, Zln, Zlo, Zlp, Zlq, Zlr, Zls, Zlt, Zlu, Zlv, Zlw, Zlx, Zly, setX, Zlz, Zma, Zmb, Int.ofNat_lt, Int.ofNat_le, y13, map_at hi, dot, ne1]
        exact ⟨_, rfl, .val⟩
      · rintro e ⟨x13, rfl, y13⟩
        simp -implicitDefEqProofs -dsimp only [↓Zaa, ↓Zab, ↓Zac, ↓Zad, ↓Zae, ↓Zaf, ↓Zag, ↓Zah, ↓Zai, ↓Zaj, ↓Zak, ↓Zal, ↓Zam, ↓Zan, ↓Zao, ↓Zap, ↓Zaq, ↓Zar, ↓Zas, ↓Zat, ↓Zau, ↓Zav, ↓Zaw, ↓Zax, ↓Zay, ↓Zaz, ↓Zba, ↓Zbb, ↓Zbc, ↓Zbd, ↓Zbe, ↓Zbf, ↓Zbg, ↓Zbh, ↓Zbi, ↓Zbj, ↓Zbk, ↓Zbl, ↓Zbm, ↓Zbn, ↓Zbo, ↓Zbp, ↓Zbq, ↓Zbr, ↓Zbs, ↓Zbt, ↓Zbu, ↓Zbv, ↓Zbw, ↓Zbx, ↓Zby, ↓Zbz, ↓Zca, ↓Zcb, ↓Zcc, ↓Zcd, ↓Zce, ↓Zcf, ↓Zcg, ↓Zch, ↓Zci, ↓Zcj, ↓Zck, ↓Zcl, ↓Zcm, ↓Zcn, ↓Zco, ↓Zcp, ↓Zcq, ↓Zcr, ↓Zcs, ↓Zct, ↓Zcu, ↓Zcv, ↓Zcw, ↓Zcx, ↓Zcy, ↓Zcz, ↓Zda, ↓Zdb, ↓Zdc, ↓Zdd, ↓Zde, ↓Zdf, ↓Zdg, ↓Zdh, ↓Zdi, ↓Zdj, ↓Zdk, ↓Zdl, ↓Zdm, ↓Zdn, ↓Zdo, ↓Zdp, ↓Zdq, ↓Zdr, ↓Zds, ↓Zdt, ↓Zdu, ↓Zdv, ↓Zdw, ↓Zdx, ↓Zdy, ↓Zdz, ↓Zea, ↓Zeb, ↓Zec, ↓Zed, ↓Zee, ↓Zef, ↓Zeg, ↓Zeh, ↓Zei, ↓Zej, ↓Zek, ↓Zel, ↓Zem, ↓Zen, ↓Zeo, ↓Zep, ↓Zeq, ↓Zer, ↓Zes, ↓Zet, ↓Zeu, ↓Zev, ↓Zew, ↓Zex, ↓Zey, ↓Zez, ↓Zfa, ↓Zfb, ↓Zfc, ↓Zfd, ↓Zfe, ↓Zff, ↓Zfg, ↓Zfh, ↓Zfi, ↓Zfj, ↓Zfk, ↓Zfl, ↓Zfm, ↓Zfn, ↓Zfo, ↓Zfp, ↓Zfq, ↓Zfr, ↓Zfs, ↓Zft, ↓Zfu, ↓Zfv, ↓Zfw, ↓Zfx, ↓Zfy, ↓Zfz, ↓Zga, ↓Zgb, ↓Zgc, ↓Zgd, ↓Zge, ↓Zgf, ↓Zgg, ↓Zgh, ↓Zgi, ↓Zgj, ↓Zgk, ↓Zgl, ↓Zgm, ↓Zgn, ↓Zgo, ↓Zgp, ↓Zgq, ↓Zgr, ↓Zgs, ↓Zgt, ↓Zgu, ↓Zgv, ↓Zgw, ↓Zgx, ↓Zgy, ↓Zgz, ↓Zha, ↓Zhb, ↓Zhc, ↓Zhd, ↓Zhe, ↓Zhf, ↓Zhg, ↓Zhh, ↓Zhi, ↓Zhj, ↓Zhk, ↓Zhl, ↓Zhm, ↓Zhn, ↓Zho, ↓Zhp, ↓Zhq, ↓Zhr, ↓Zhs, ↓Zht, ↓Zhu, ↓Zhv, ↓Zhw, ↓Zhx, ↓Zhy, ↓Zhz, ↓Zia, ↓Zib, ↓Zic, ↓Zid, ↓Zie, ↓Zif, ↓Zig, ↓Zih, ↓Zii, ↓Zij, ↓Zik, reduceIte, if_true, if_false, Bool.false_eq_true, Bool.and_true, Bool.true_and, Bool.and_false, Bool.false_and, Bool.or_true, Bool.true_or, Bool.or_false, Bool.false_or, Int.cast_ofNat_Int, Zil, Zim, beq_self_eq_true, Int.reduceBEq, Int.reduceLT, Int.reduceLE, Int.reduceEq, Int.reduceNeg, Nat.reduceLT, Zin, Zio, Ziq, Zir, Zis, Zit, Ziu, Ziv, Ziw, Zix, Ziy, Ziz, Zja, Zjb, Zjc, Zjd, Zje, Zjf, Zjg, Zjh, Zji, Zjj, Zjk, Zjl, Zjm, Zjn, Zjo, Zjp, Zjq, Zjr, Zjs, Zjt, Zju, Zjv, Zjw, Zjx, Zjy, Zjz, Zka, Zkb, Zkc, Zkd, Zke, Zkf, Zkg, Zkh, Zki, Zkj, Zkk, Zkl, Zkm, Zkn, Zko, Zkp, List.lookup_nil, Zkq, Zkr, Option.map_some, Option.map_none, Option.bind_some, Option.bind_none, List.map_nil, List.map_cons, List.nil_append, List.cons_append, List.append_nil, List.length_cons, List.length_nil, Nat.reduceAdd, Nat.reduceLeDiff, Nat.reduceEqDiff, Nat.reduceBEq, decide_true, decide_false, Bool.not_true, Bool.not_false, Zks, Zkt, Zku, Zkv, Zkw, Zkx, Zky, Zkz, Zla, Zlb, Zlc, Zld, Zle, Zlf, List.getElem?_cons_zero, List.getElem?_cons_succ, Zlg, Zlh, Zli, Zlj, Zlk, Zll, Zlm, Zln, Zlo, Zlp, Zlq, Zlr, Zls, Zlt, Zlu, Zlv, Zlw, Zlx, Zly, setX, Zlz, Zma, Zmb, Int.ofNat_lt, Int.ofNat_le]
        exact ⟨_, _, _, rfl, y9, .val, y13⟩
  · rintro e ⟨x9, x12, x13, rfl, y9, y12, y13⟩
    simp -implicitDefEqProofs -dsimp only [↓Zaa, ↓Zab, ↓Zac, ↓Zad, ↓Zae, ↓Zaf, ↓Zag, ↓Zah, ↓Zai, ↓Zaj, ↓Zak, ↓Zal, ↓Zam, ↓Zan, ↓Zao, ↓Zap, ↓Zaq, ↓Zar, ↓Zas, ↓Zat, ↓Zau, ↓Zav, ↓Zaw, ↓Zax, ↓Zay, ↓Zaz, ↓Zba, ↓Zbb, ↓Zbc, ↓Zbd, ↓Zbe, ↓Zbf, ↓Zbg, ↓Zbh, ↓Zbi, ↓Zbj, ↓Zbk, ↓Zbl, ↓Zbm, ↓Zbn, ↓Zbo, ↓Zbp, ↓Zbq, ↓Zbr, ↓Zbs, ↓Zbt, ↓Zbu, ↓Zbv, ↓Zbw, ↓Zbx, ↓Zby, ↓Zbz, ↓Zca, ↓Zcb, ↓Zcc, ↓Zcd, ↓Zce, ↓Zcf, ↓Zcg, ↓Zch, ↓Zci, ↓Zcj, ↓Zck, ↓Zcl, ↓Zcm, ↓Zcn, ↓Zco, ↓Zcp, ↓Zcq, ↓Zcr, ↓Zcs, ↓Zct, ↓Zcu, ↓Zcv, ↓Zcw, ↓Zcx, ↓Zcy, ↓Zcz, ↓Zda, ↓Zdb, ↓Zdc, ↓Zdd, ↓Zde, ↓Zdf, ↓Zdg, ↓Zdh, ↓Zdi, ↓Zdj, ↓Zdk, ↓Zdl, ↓Zdm, ↓Zdn, ↓Zdo, ↓Zdp, ↓Zdq, ↓Zdr, ↓Zds, ↓Zdt, ↓Zdu, ↓Zdv, ↓Zdw, ↓Zdx, ↓Zdy, ↓Zdz, ↓Zea, ↓Zeb, ↓Zec, ↓Zed, ↓Zee, ↓Zef, ↓Zeg, ↓Zeh, ↓Zei, ↓Zej, ↓Zek, ↓Zel, ↓Zem, ↓Zen, ↓Zeo, ↓Zep, ↓Zeq, ↓Zer, ↓Zes, ↓Zet, ↓Zeu, ↓Zev, ↓Zew, ↓Zex, ↓Zey, ↓Zez, ↓Zfa, ↓Zfb, ↓Zfc, ↓Zfd, ↓Zfe, ↓Zff, ↓Zfg, ↓Zfh, ↓Zfi, ↓Zfj, ↓Zfk, ↓Zfl, ↓Zfm, ↓Zfn, ↓Zfo, ↓Zfp, ↓Zfq, ↓Zfr, ↓Zfs, ↓Zft, ↓Zfu, ↓Zfv, ↓Zfw, ↓Zfx, ↓Zfy, ↓Zfz, ↓Zga, ↓Zgb, ↓Zgc, ↓Zgd, ↓Zge, ↓Zgf, ↓Zgg, ↓Zgh, ↓Zgi, ↓Zgj, ↓Zgk, ↓Zgl, ↓Zgm, ↓Zgn, ↓Zgo, ↓Zgp, ↓Zgq, ↓Zgr, ↓Zgs, ↓Zgt, ↓Zgu, ↓Zgv, ↓Zgw, ↓Zgx, ↓Zgy, ↓Zgz, ↓Zha, ↓Zhb, ↓Zhc, ↓Zhd, ↓Zhe, ↓Zhf, ↓Zhg, ↓Zhh, ↓Zhi, ↓Zhj, ↓Zhk, ↓Zhl, ↓Zhm, ↓Zhn, ↓Zho, ↓Zhp, ↓Zhq, ↓Zhr, ↓Zhs, ↓Zht, ↓Zhu, ↓Zhv, ↓Zhw, ↓Zhx, ↓Zhy, ↓Zhz, ↓Zia, ↓Zib, ↓Zic, ↓Zid, ↓Zie, ↓Zif, ↓Zig, ↓Zih, ↓Zii, ↓Zij, ↓Zik, reduceIte, if_true, if_false, Bool.false_eq_true, Bool.and_true, Bool.true_and, Bool.and_false, Bool.false_and, Bool.or_true, Bool.true_or, Bool.or_false, Bool.false_or, Int.cast_ofNat_Int, Zil, Zim, beq_self_eq_true, Int.reduceBEq, Int.reduceLT, Int.reduceLE, Int.reduceEq, Int.reduceNeg, Nat.reduceLT, Zin, Zio, Ziq, Zir, Zis, Zit, Ziu, Ziv, Ziw, Zix, Ziy, Ziz, Zja, Zjb, Zjc, Zjd, Zje, Zjf, Zjg, Zjh, Zji, Zjj, Zjk, Zjl, Zjm, Zjn, Zjo, Zjp, Zjq, Zjr, Zjs, Zjt, Zju, Zjv, Zjw, Zjx, Zjy, Zjz, Zka, Zkb, Zkc, Zkd, Zke, Zkf, Zkg, Zkh, Zki, Zkj, Zkk, Zkl, Zkm, Zkn, Zko, Zkp, List.lookup_nil, Zkq, Zkr, Option.map_some, Option.map_none, Option.bind_some, Option.bind_none, List.map_nil, List.map_cons, List.nil_append, List.cons_append, List.append_nil, List.length_cons, List.length_nil, Nat.reduceAdd, Nat.reduceLeDiff, Nat.reduceEqDiff, Nat.reduceBEq, decide_true, decide_false, Bool.not_true, Bool.not_false, Zks, Zkt, Zku, Zkv, Zkw, Zkx, Zky, Zkz, Zla, Zlb, Zlc, Zld, Zle, Zlf, List.getElem?_cons_zero, List.getElem?_cons_succ, Zlg, Zlh, Zli, Zlj, Zlk, Zll, Zlm, Zln, Zlo, Zlp, Zlq, Zlr, Zls, Zlt, Zlu, Zlv, Zlw, Zlx, Zly, setX, Zlz, Zma, Zmb, Int.ofNat_lt, Int.ofNat_le, mul_ii m1, e2w, hi1, hsw]
    refine lc_rng (fun j => pD (x0 j)) (canWipe_1 rfl y9) (by simp only [wipeE, List.set_cons_zero, List.set_cons_succ]; rfl) (by omega) (fun j hj => ?_) ?_
    · have at2 := ints_at (rs := its) (i := 2 * j) (by omega)
      have at3 := ints_at (rs := its) (i := 2 * j + 1) (by omega)
      have e2 : (2 : Int) * (j : Int) = ((2 * j : Nat) : Int) := by omega
      have e3 : ((2 * j : Nat) : Int) + 1 = ((2 * j + 1 : Nat) : Int) := by omega
      have m4 : mulOk 2 (j : Int) = true := Bt.ok (Bt.s20 (by omega) (by omega)) (Bt.s20 (by omega) (by omega))
      simp -implicitDefEqProofs -dsimp only [↓Zaa, ↓Zab, ↓Zac, ↓Zad, ↓Zae, ↓Zaf, ↓Zag, ↓Zah, ↓Zai, ↓Zaj, ↓Zak, ↓Zal, ↓Zam, ↓Zan, ↓Zao, ↓Zap, ↓Zaq, ↓Zar, ↓Zas, ↓Zat, ↓Zau, ↓Zav, ↓Zaw, ↓Zax, ↓Zay, ↓Zaz, ↓Zba, ↓Zbb, ↓Zbc, ↓Zbd, ↓Zbe, ↓Zbf, ↓Zbg, ↓Zbh, ↓Zbi, ↓Zbj, ↓Zbk, ↓Zbl, ↓Zbm, ↓Zbn, ↓Zbo, ↓Zbp, ↓Zbq, ↓Zbr, ↓Zbs, ↓Zbt, ↓Zbu, ↓Zbv, ↓Zbw, ↓Zbx, ↓Zby, ↓Zbz, ↓Zca, ↓Zcb, ↓Zcc, ↓Zcd, ↓Zce, ↓Zcf, ↓Zcg, ↓Zch, ↓Zci, ↓Zcj, ↓Zck, ↓Zcl, ↓Zcm, ↓Zcn, ↓Zco, ↓Zcp, ↓Zcq, ↓Zcr, ↓Zcs, ↓Zct, ↓Zcu, ↓Zcv, ↓Zcw, ↓Zcx, ↓Zcy, ↓Zcz, ↓Zda, ↓Zdb, ↓Zdc, ↓Zdd, ↓Zde, ↓Zdf, ↓Zdg, ↓Zdh, ↓Zdi, ↓Zdj, ↓Zdk, ↓Zdl, ↓Zdm, ↓Zdn, ↓Zdo, ↓Zdp, ↓Zdq, ↓Zdr, ↓Zds, ↓Zdt, ↓Zdu, ↓Zdv, ↓Zdw, ↓Zdx, ↓Zdy, ↓Zdz, ↓Zea, ↓Zeb, ↓Zec, ↓Zed, ↓Zee, ↓Zef, ↓Zeg, ↓Zeh, ↓Zei, ↓Zej, ↓Zek, ↓Zel, ↓Zem, ↓Zen, ↓Zeo, ↓Zep, ↓Zeq, ↓Zer, ↓Zes, ↓Zet, ↓Zeu, ↓Zev, ↓Zew, ↓Zex, ↓Zey, ↓Zez, ↓Zfa, ↓Zfb, ↓Zfc, ↓Zfd, ↓Zfe, ↓Zff, ↓Zfg, ↓Zfh, ↓Zfi, ↓Zfj, ↓Zfk, ↓Zfl, ↓Zfm, ↓Zfn, ↓Zfo, ↓Zfp, ↓Zfq, ↓Zfr, ↓Zfs, ↓Zft, ↓Zfu, ↓Zfv, ↓Zfw, ↓Zfx, ↓Zfy, ↓Zfz, ↓Zga, ↓Zgb, ↓Zgc, ↓Zgd, ↓Zge, ↓Zgf, ↓Zgg, ↓Zgh, ↓Zgi, ↓Zgj, ↓Zgk, ↓Zgl, ↓Zgm, ↓Zgn, ↓Zgo, ↓Zgp, ↓Zgq, ↓Zgr, ↓Zgs, ↓Zgt, ↓Zgu, ↓Zgv, ↓Zgw, ↓Zgx, ↓Zgy, ↓Zgz, ↓Zha, ↓Zhb, ↓Zhc, ↓Zhd, ↓Zhe, ↓Zhf, ↓Zhg, ↓Zhh, ↓Zhi, ↓Zhj, ↓Zhk, ↓Zhl, ↓Zhm, ↓Zhn, ↓Zho, ↓Zhp, ↓Zhq, ↓Zhr, ↓Zhs, ↓Zht, ↓Zhu, ↓Zhv, ↓Zhw, ↓Zhx, ↓Zhy, ↓Zhz, ↓Zia, ↓Zib, ↓Zic, ↓Zid, ↓Zie, ↓Zif, ↓Zig, ↓Zih, ↓Zii, ↓Zij, ↓Zik, reduceIte, if_true, if_false, Bool.false_eq_true, Bool.and_true, Bool.true_and, Bool.and_false, Bool.false_and, Bool.or_true, Bool.true_or, Bool.or_false, Bool.false_or, Int.cast_ofNat_Int, Zil, Zim, beq_self_eq_true, Int.reduceBEq, Int.reduceLT, Int.reduceLE, Int.reduceEq, Int.reduceNeg, Nat.reduceLT, Zin, Zio, Ziq, Zir, Zis, Zit, Ziu, Ziv, Ziw, Zix, Ziy, Ziz, Zja, Zjb, Zjc, Zjd, Zje, Zjf, Zjg, Zjh, Zji, Zjj, Zjk, Zjl, Zjm, Zjn, Zjo, Zjp, Zjq, Zjr, Zjs, Zjt, Zju, Zjv, Zjw, Zjx, Zjy, Zjz, Zka, Zkb, Zkc, Zkd, Zke, Zkf, Zkg, Zkh, Zki, Zkj, Zkk, Zkl, Zkm, Zkn, Zko, Zkp, List.lookup_nil, Zkq, Zkr, Option.map_some, Option.map_none, Option.bind_some, Option.bind_none, List.map_nil, List.map_cons, List.nil_append, List.cons_append, List.append_nil, List.length_cons, List.length_nil, Nat.reduceAdd, Nat.reduceLeDiff, Nat.reduceEqDiff, Nat.reduceBEq, decide_true, decide_false, Bool.not_true, Bool.not_false, Zks, Zkt, Zku, Zkv, Zkw, Zkx, Zky, Zkz, Zla, Zlb, Zlc, Zld, Zle, Zlf, List.getElem?_cons_zero, List.getElem?_cons_succ, Zlg, Zlh, Zli, Zlj, Zlk, Zll, Zlm, Zln, Zlo, Zlp, Zlq, Zlr, Zls, Zlt, Zlu, Zlv, Zlw, Zlx, Zly, setX, Zlz, Zma, Zmb, Int.ofNat_lt, Int.ofNat_le, mul_ii m4, e2, e3, at2, at3, l_sml]
      exact ⟨rfl, rfl, rfl⟩
    simp -implicitDefEqProofs -dsimp only [↓Zaa, ↓Zab, ↓Zac, ↓Zad, ↓Zae, ↓Zaf, ↓Zag, ↓Zah, ↓Zai, ↓Zaj, ↓Zak, ↓Zal, ↓Zam, ↓Zan, ↓Zao, ↓Zap, ↓Zaq, ↓Zar, ↓Zas, ↓Zat, ↓Zau, ↓Zav, ↓Zaw, ↓Zax, ↓Zay, ↓Zaz, ↓Zba, ↓Zbb, ↓Zbc, ↓Zbd, ↓Zbe, ↓Zbf, ↓Zbg, ↓Zbh, ↓Zbi, ↓Zbj, ↓Zbk, ↓Zbl, ↓Zbm, ↓Zbn, ↓Zbo, ↓Zbp, ↓Zbq, ↓Zbr, ↓Zbs, ↓Zbt, ↓Zbu, ↓Zbv, ↓Zbw, ↓Zbx, ↓Zby, ↓Zbz, ↓Zca, ↓Zcb, ↓Zcc, ↓Zcd, ↓Zce, ↓Zcf, ↓Zcg, ↓Zch, ↓Zci, ↓Zcj, ↓Zck, ↓Zcl, ↓Zcm, ↓Zcn, ↓Zco, ↓Zcp, ↓Zcq, ↓Zcr, ↓Zcs, ↓Zct, ↓Zcu, ↓Zcv, ↓Zcw, ↓Zcx, ↓Zcy, ↓Zcz, ↓Zda, ↓Zdb, ↓Zdc, ↓Zdd, ↓Zde, ↓Zdf, ↓Zdg, ↓Zdh, ↓Zdi, ↓Zdj, ↓Zdk, ↓Zdl, ↓Zdm, ↓Zdn, ↓Zdo, ↓Zdp, ↓Zdq, ↓Zdr, ↓Zds, ↓Zdt, ↓Zdu, ↓Zdv, ↓Zdw, ↓Zdx, ↓Zdy, ↓Zdz, ↓Zea, ↓Zeb, ↓Zec, ↓Zed, ↓Zee, ↓Zef, ↓Zeg, ↓Zeh, ↓Zei, ↓Zej, ↓Zek, ↓Zel, ↓Zem, ↓Zen, ↓Zeo, ↓Zep, ↓Zeq, ↓Zer, ↓Zes, ↓Zet, ↓Zeu, ↓Zev, ↓Zew, ↓Zex, ↓Zey, ↓Zez, ↓Zfa, ↓Zfb, ↓Zfc, ↓Zfd, ↓Zfe, ↓Zff, ↓Zfg, ↓Zfh, ↓Zfi, ↓Zfj, ↓Zfk, ↓Zfl, ↓Zfm, ↓Zfn, ↓Zfo, ↓Zfp, ↓Zfq, ↓Zfr, ↓Zfs, ↓Zft, ↓Zfu, ↓Zfv, ↓Zfw, ↓Zfx, ↓Zfy, ↓Zfz, ↓Zga, ↓Zgb, ↓Zgc, ↓Zgd, ↓Zge, ↓Zgf, ↓Zgg, ↓Zgh, ↓Zgi, ↓Zgj, ↓Zgk, ↓Zgl, ↓Zgm, ↓Zgn, ↓Zgo, ↓Zgp, ↓Zgq, ↓Zgr, ↓Zgs, ↓Zgt, ↓Zgu, ↓Zgv, ↓Zgw, ↓Zgx, ↓Zgy, ↓Zgz, ↓Zha, ↓Zhb, ↓Zhc, ↓Zhd, ↓Zhe, ↓Zhf, ↓Zhg, ↓Zhh, ↓Zhi, ↓Zhj, ↓Zhk, ↓Zhl, ↓Zhm, ↓Zhn, ↓Zho, ↓Zhp, ↓Zhq, ↓Zhr, ↓Zhs, ↓Zht, ↓Zhu, ↓Zhv, ↓Zhw, ↓Zhx, ↓Zhy, ↓Zhz, ↓Zia, ↓Zib, ↓Zic, ↓Zid, ↓Zie, ↓Zif, ↓Zig, ↓Zih, ↓Zii, ↓Zij, ↓Zik, reduceIte, if_true, if_false, Bool.false_eq_true, Bool.and_true, Bool.true_and, Bool.and_false, Bool.false_and, Bool.or_true, Bool.true_or, Bool.or_false, Bool.false_or, Int.cast_ofNat_Int, Zil, Zim, beq_self_eq_true, Int.reduceBEq, Int.reduceLT, Int.reduceLE, Int.reduceEq, Int.reduceNeg, Nat.reduceLT, Zin, Zio, Ziq, Zir, Zis, Zit, Ziu, Ziv, Ziw, Zix, Ziy, Ziz, Zja, Zjb, Zjc, Zjd, Zje, Zjf, Zjg, Zjh, Zji, Zjj, Zjk, Zjl, Zjm, Zjn, Zjo, Zjp, Zjq, Zjr, Zjs, Zjt, Zju, Zjv, Zjw, Zjx, Zjy, Zjz, Zka, Zkb, Zkc, Zkd, Zke, Zkf, Zkg, Zkh, Zki, Zkj, Zkk, Zkl, Zkm, Zkn, Zko, Zkp, List.lookup_nil, Zkq, Zkr, Option.map_some, Option.map_none, Option.bind_some, Option.bind_none, List.map_nil, List.map_cons, List.nil_append, List.cons_append, List.append_nil, List.length_cons, List.length_nil, Nat.reduceAdd, Nat.reduceLeDiff, Nat.reduceEqDiff, Nat.reduceBEq, decide_true, decide_false, Bool.not_true, Bool.not_false, Zks, Zkt, Zku, Zkv, Zkw, Zkx, Zky, Zkz, Zla, Zlb, Zlc, Zld, Zle, Zlf, List.getElem?_cons_zero, List.getElem?_cons_succ, Zlg, Zlh, Zli, Zlj, Zlk, Zll, Zlm, Zln, Zlo, Zlp, Zlq, Zlr, Zls, Zlt, Zlu, Zlv, Zlw, Zlx, Zly, setX, Zlz, Zma, Zmb, Int.ofNat_lt, Int.ofNat_le]
    refine lc_vec (fun i => pD (bb i)) (canWipe_1 rfl y13) (by simp only [wipeE, List.set_cons_zero, List.set_cons_succ]; rfl) (by omega) (fun i hi => ?_) ?_
    · have dot := l_dot (w := w) (u := t i) (v := x0) (j := 20) (k := 20) (fun j _ => ht i j) (fun j _ => sx0 j) (by omega) (by omega) (A := rowP w (t i)) (B := .lst (vec w fun j => pD (x0 j))) (fun _ => Zjh) (fun _ => Zjh) (by rw [Zjj, vec_len])
      simp -implicitDefEqProofs -dsimp only [↓Zaa, ↓Zab, ↓Zac, ↓Zad, ↓Zae, ↓Zaf, ↓Zag, ↓Zah, ↓Zai, ↓Zaj, ↓Zak, ↓Zal, ↓Zam, ↓Zan, ↓Zao, ↓Zap, ↓Zaq, ↓Zar, ↓Zas, ↓Zat, ↓Zau, ↓Zav, ↓Zaw, ↓Zax, ↓Zay, ↓Zaz, ↓Zba, ↓Zbb, ↓Zbc, ↓Zbd, ↓Zbe, ↓Zbf, ↓Zbg, ↓Zbh, ↓Zbi, ↓Zbj, ↓Zbk, ↓Zbl, ↓Zbm, ↓Zbn, ↓Zbo, ↓Zbp, ↓Zbq, ↓Zbr, ↓Zbs, ↓Zbt, ↓Zbu, ↓Zbv, ↓Zbw, ↓Zbx, ↓Zby, ↓Zbz, ↓Zca, ↓Zcb, ↓Zcc, ↓Zcd, ↓Zce, ↓Zcf, ↓Zcg, ↓Zch, ↓Zci, ↓Zcj, ↓Zck, ↓Zcl, ↓Zcm, ↓Zcn, ↓Zco, ↓Zcp, ↓Zcq, ↓Zcr, ↓Zcs, ↓Zct, ↓Zcu, ↓Zcv, ↓Zcw, ↓Zcx, ↓Zcy, ↓Zcz, ↓Zda, ↓Zdb, ↓Zdc, ↓Zdd, ↓Zde, ↓Zdf, ↓Zdg, ↓Zdh, ↓Zdi, ↓Zdj, ↓Zdk, ↓Zdl, ↓Zdm, ↓Zdn, ↓Zdo, ↓Zdp, ↓Zdq, ↓Zdr, ↓Zds, ↓Zdt, ↓Zdu, ↓Zdv, ↓Zdw, ↓Zdx, ↓Zdy, ↓Zdz, ↓Zea, ↓Zeb, ↓Zec, ↓Zed, ↓Zee, ↓Zef, ↓Zeg, ↓Zeh, ↓Zei, ↓Zej, ↓Zek, ↓Zel, ↓Zem, ↓Zen, ↓Zeo, ↓Zep, ↓Zeq, ↓Zer, ↓Zes, ↓Zet, ↓Zeu, ↓Zev, ↓Zew, ↓Zex, ↓Zey, ↓Zez, ↓Zfa, ↓Zfb, ↓Zfc, ↓Zfd, ↓Zfe, ↓Zff, ↓Zfg, ↓Zfh, ↓Zfi, ↓Zfj, ↓Zfk, ↓Zfl, ↓Zfm, ↓Zfn, ↓Zfo, ↓Zfp, ↓Zfq, ↓Zfr, ↓Zfs, ↓Zft, ↓Zfu, ↓Zfv, ↓Zfw, ↓Zfx, ↓Zfy, ↓Zfz, ↓Zga, ↓Zgb, ↓Zgc, ↓Zgd, ↓Zge, ↓Zgf, ↓Zgg, ↓Zgh, ↓Zgi, ↓Zgj, ↓Zgk, ↓Zgl, ↓Zgm, ↓Zgn, ↓Zgo, ↓Zgp, ↓Zgq, ↓Zgr, ↓Zgs, ↓Zgt, ↓Zgu, ↓Zgv, ↓Zgw, ↓Zgx, ↓Zgy, ↓Zgz, ↓Zha, ↓Zhb, ↓Zhc, ↓Zhd, ↓Zhe, ↓Zhf, ↓Zhg, ↓Zhh, ↓Zhi, ↓Zhj, ↓Zhk, ↓Zhl, ↓Zhm, ↓Zhn, ↓Zho, ↓Zhp, ↓Zhq, ↓Zhr, ↓Zhs, ↓Zht, ↓Zhu, ↓Zhv, ↓Zhw, ↓Zhx, ↓Zhy, ↓Zhz, ↓Zia, ↓Zib, ↓Zic, ↓Zid, ↓Zie, ↓Zif, ↓Zig, ↓Zih, ↓Zii, ↓Zij, ↓Zik, reduceIte, if_true, if_false, Bool.false_eq_true, Bool.and_true, Bool.true_and, Bool.and_false, Bool.false_and, Bool.or_true, Bool.true_or, Bool.or_false, Bool.false_or, Int.cast_ofNat_Int, Zil, Zim, beq_self_eq_true, Int.reduceBEq, Int.reduceLT, Int.reduceLE, Int.reduceEq, Int.reduceNeg, Nat.reduceLT, Zin, Zio, Ziq, Zir, Zis, Zit, Ziu, Ziv, Ziw, Zix, Ziy, Ziz, Zja, Zjb, Zjc, Zjd, Zje, Zjf, Zjg, Zjh, Zji, Zjj, Zjk, Zjl, Zjm, Zjn, Zjo, Zjp, Zjq, Zjr, Zjs, Zjt, Zju, Zjv, Zjw, Zjx, Zjy, Zjz, Zka, Zkb, Zkc, Zkd, Zke, Zkf, Zkg, Zkh, Zki, Zkj, Zkk, Zkl, Zkm, Zkn, Zko, Zkp, List.lookup_nil, Zkq, Zkr, Option.map_some, Option.map_none, Option.bind_some, Option.bind_none, List.map_nil, List.map_cons, List.nil_append, List.cons_append, List.append_nil, List.length_cons, List.length_nil, Nat.reduceAdd, Nat.reduceLeDiff, Nat.reduceEqDiff, Nat.reduceBEq, decide_true, decide_false, Bool.not_true, Bool.not_false, Zks, Zkt, Zku, Zkv, Zkw, Zkx, Zky, Zkz, Zla, Zlb, Zlc, Zld, Zle, Zlf, List.getElem?_cons_zero, List.getElem?_cons_succ, Zlg, Zlh, Zli, Zlj, Zlk, Zll, Zlm, Zln, Zlo, Zlp, Zlq, Zlr, Zls, Zlt, Zlu, Zlv, Zlw, Zlx, Zly, setX, Zlz, Zma, Zmb, Int.ofNat_lt, Int.ofNat_le, dot]
      exact ⟨rfl, rfl, rfl⟩
    have g0 := fun i (hi : i < h) => solve_is R3 (solve_some R3 (x := x0) fun i _ => rfl) hi
    obtain ⟨xx, hxx⟩ : ∃ xx, svec s3 w s3.pv.length = xx := ⟨_, rfl⟩
    rw [hxx] at q3 g0
    have M3 : 165 * 5 ^ w ≤ 103125 := by omega
    have sxx : ∀ j, Sz 103125 (xx j) := hxx ▸ svec_sz (by decide) fun i hi => (sz3 i w (by have := R3.le; omega) (by omega)).mono M3
    have gapK : Ker h w t fun j => x0 j - xx j := fun i hi => by
      have g1 := g0 i hi
      have e : (fun j => t i j * (x0 j - xx j)) = fun j => t i j * x0 j - t i j * xx j := by funext j; grind
      rw [e, sumN_sub, g1]
      grind
    have q4 := l_pairs (w := w) (v := xx) (by omega)
    have es : pEq true (.str [115, 111, 108, 117, 116, 105, 111, 110]) (.str [115, 111, 108, 117, 116, 105, 111, 110]) = some (.d (.bl false)) := rfl
    simp -implicitDefEqProofs -dsimp only [↓Zaa, ↓Zab, ↓Zac, ↓Zad, ↓Zae, ↓Zaf, ↓Zag, ↓Zah, ↓Zai, ↓Zaj, ↓Zak, ↓Zal, ↓Zam, ↓Zan, ↓Zao, ↓Zap, ↓Zaq, ↓Zar, ↓Zas, ↓Zat, ↓Zau, ↓Zav, ↓Zaw, ↓Zax, ↓Zay, ↓Zaz, ↓Zba, ↓Zbb, ↓Zbc, ↓Zbd, ↓Zbe, ↓Zbf, ↓Zbg, ↓Zbh, ↓Zbi, ↓Zbj, ↓Zbk, ↓Zbl, ↓Zbm, ↓Zbn, ↓Zbo, ↓Zbp, ↓Zbq, ↓Zbr, ↓Zbs, ↓Zbt, ↓Zbu, ↓Zbv, ↓Zbw, ↓Zbx, ↓Zby, ↓Zbz, ↓Zca, ↓Zcb, ↓Zcc, ↓Zcd, ↓Zce, ↓Zcf, ↓Zcg, ↓Zch, ↓Zci, ↓Zcj, ↓Zck, ↓Zcl, ↓Zcm, ↓Zcn, ↓Zco, ↓Zcp, ↓Zcq, ↓Zcr, ↓Zcs, ↓Zct, ↓Zcu, ↓Zcv, ↓Zcw, ↓Zcx, ↓Zcy, ↓Zcz, ↓Zda, ↓Zdb, ↓Zdc, ↓Zdd, ↓Zde, ↓Zdf, ↓Zdg, ↓Zdh, ↓Zdi, ↓Zdj, ↓Zdk, ↓Zdl, ↓Zdm, ↓Zdn, ↓Zdo, ↓Zdp, ↓Zdq, ↓Zdr, ↓Zds, ↓Zdt, ↓Zdu, ↓Zdv, ↓Zdw, ↓Zdx, ↓Zdy, ↓Zdz, ↓Zea, ↓Zeb, ↓Zec, ↓Zed, ↓Zee, ↓Zef, ↓Zeg, ↓Zeh, ↓Zei, ↓Zej, ↓Zek, ↓Zel, ↓Zem, ↓Zen, ↓Zeo, ↓Zep, ↓Zeq, ↓Zer, ↓Zes, ↓Zet, ↓Zeu, ↓Zev, ↓Zew, ↓Zex, ↓Zey, ↓Zez, ↓Zfa, ↓Zfb, ↓Zfc, ↓Zfd, ↓Zfe, ↓Zff, ↓Zfg, ↓Zfh, ↓Zfi, ↓Zfj, ↓Zfk, ↓Zfl, ↓Zfm, ↓Zfn, ↓Zfo, ↓Zfp, ↓Zfq, ↓Zfr, ↓Zfs, ↓Zft, ↓Zfu, ↓Zfv, ↓Zfw, ↓Zfx, ↓Zfy, ↓Zfz, ↓Zga, ↓Zgb, ↓Zgc, ↓Zgd, ↓Zge, ↓Zgf, ↓Zgg, ↓Zgh, ↓Zgi, ↓Zgj, ↓Zgk, ↓Zgl, ↓Zgm, ↓Zgn, ↓Zgo, ↓Zgp, ↓Zgq, ↓Zgr, ↓Zgs, ↓Zgt, ↓Zgu, ↓Zgv, ↓Zgw, ↓Zgx, ↓Zgy, ↓Zgz, ↓Zha, ↓Zhb, ↓Zhc, ↓Zhd, ↓Zhe, ↓Zhf, ↓Zhg, ↓Zhh, ↓Zhi, ↓Zhj, ↓Zhk, ↓Zhl, ↓Zhm, ↓Zhn, ↓Zho, ↓Zhp, ↓Zhq, ↓Zhr, ↓Zhs, ↓Zht, ↓Zhu, ↓Zhv, ↓Zhw, ↓Zhx, ↓Zhy, ↓Zhz, ↓Zia, ↓Zib, ↓Zic, ↓Zid, ↓Zie, ↓Zif, ↓Zig, ↓Zih, ↓Zii, ↓Zij, ↓Zik, reduceIte, if_true, if_false, Bool.false_eq_true, Bool.and_true, Bool.true_and, Bool.and_false, Bool.false_and, Bool.or_true, Bool.true_or, Bool.or_false, Bool.false_or, Int.cast_ofNat_Int, Zil, Zim, beq_self_eq_true, Int.reduceBEq, Int.reduceLT, Int.reduceLE, Int.reduceEq, Int.reduceNeg, Nat.reduceLT, Zin, Zio, Ziq, Zir, Zis, Zit, Ziu, Ziv, Ziw, Zix, Ziy, Ziz, Zja, Zjb, Zjc, Zjd, Zje, Zjf, Zjg, Zjh, Zji, Zjj, Zjk, Zjl, Zjm, Zjn, Zjo, Zjp, Zjq, Zjr, Zjs, Zjt, Zju, Zjv, Zjw, Zjx, Zjy, Zjz, Zka, Zkb, Zkc, Zkd, Zke, Zkf, Zkg, Zkh, Zki, Zkj, Zkk, Zkl, Zkm, Zkn, Zko, Zkp, List.lookup_nil, Zkq, Zkr, Option.map_some, Option.map_none, Option.bind_some, Option.bind_none, List.map_nil, List.map_cons, List.nil_append, List.cons_append, List.append_nil, List.length_cons, List.length_nil, Nat.reduceAdd, Nat.reduceLeDiff, Nat.reduceEqDiff, Nat.reduceBEq, decide_true, decide_false, Bool.not_true, Bool.not_false, Zks, Zkt, Zku, Zkv, Zkw, Zkx, Zky, Zkz, Zla, Zlb, Zlc, Zld, Zle, Zlf, List.getElem?_cons_zero, List.getElem?_cons_succ, Zlg, Zlh, Zli, Zlj, Zlk, Zll, Zlm, Zln, Zlo, Zlp, Zlq, Zlr, Zls, Zlt, Zlu, Zlv, Zlw, Zlx, Zly, setX, Zlz, Zma, Zmb, Int.ofNat_lt, Int.ofNat_le, l_ratiosL (w := h) (v := bb) (by omega), q3, q4, es, hsw]
    refine lc_rng (fun j => pD (x0 j - xx j)) (canWipe_1 rfl y9) (by simp only [wipeE, List.set_cons_zero, List.set_cons_succ]; rfl) (by omega) (fun j hj => ?_) ?_
    · simp -implicitDefEqProofs -dsimp only [↓Zaa, ↓Zab, ↓Zac, ↓Zad, ↓Zae, ↓Zaf, ↓Zag, ↓Zah, ↓Zai, ↓Zaj, ↓Zak, ↓Zal, ↓Zam, ↓Zan, ↓Zao, ↓Zap, ↓Zaq, ↓Zar, ↓Zas, ↓Zat, ↓Zau, ↓Zav, ↓Zaw, ↓Zax, ↓Zay, ↓Zaz, ↓Zba, ↓Zbb, ↓Zbc, ↓Zbd, ↓Zbe, ↓Zbf, ↓Zbg, ↓Zbh, ↓Zbi, ↓Zbj, ↓Zbk, ↓Zbl, ↓Zbm, ↓Zbn, ↓Zbo, ↓Zbp, ↓Zbq, ↓Zbr, ↓Zbs, ↓Zbt, ↓Zbu, ↓Zbv, ↓Zbw, ↓Zbx, ↓Zby, ↓Zbz, ↓Zca, ↓Zcb, ↓Zcc, ↓Zcd, ↓Zce, ↓Zcf, ↓Zcg, ↓Zch, ↓Zci, ↓Zcj, ↓Zck, ↓Zcl, ↓Zcm, ↓Zcn, ↓Zco, ↓Zcp, ↓Zcq, ↓Zcr, ↓Zcs, ↓Zct, ↓Zcu, ↓Zcv, ↓Zcw, ↓Zcx, ↓Zcy, ↓Zcz, ↓Zda, ↓Zdb, ↓Zdc, ↓Zdd, ↓Zde, ↓Zdf, ↓Zdg, ↓Zdh, ↓Zdi, ↓Zdj, ↓Zdk, ↓Zdl, ↓Zdm, ↓Zdn, ↓Zdo, ↓Zdp, ↓Zdq, ↓Zdr, ↓Zds, ↓Zdt, ↓Zdu, ↓Zdv, ↓Zdw, ↓Zdx, ↓Zdy, ↓Zdz, ↓Zea, ↓Zeb, ↓Zec, ↓Zed, ↓Zee, ↓Zef, ↓Zeg, ↓Zeh, ↓Zei, ↓Zej, ↓Zek, ↓Zel, ↓Zem, ↓Zen, ↓Zeo, ↓Zep, ↓Zeq, ↓Zer, ↓Zes, ↓Zet, ↓Zeu, ↓Zev, ↓Zew, ↓Zex, ↓Zey, ↓Zez, ↓Zfa, ↓Zfb, ↓Zfc, ↓Zfd, ↓Zfe, ↓Zff, ↓Zfg, ↓Zfh, ↓Zfi, ↓Zfj, ↓Zfk, ↓Zfl, ↓Zfm, ↓Zfn, ↓Zfo, ↓Zfp, ↓Zfq, ↓Zfr, ↓Zfs, ↓Zft, ↓Zfu, ↓Zfv, ↓Zfw, ↓Zfx, ↓Zfy, ↓Zfz, ↓Zga, ↓Zgb, ↓Zgc, ↓Zgd, ↓Zge, ↓Zgf, ↓Zgg, ↓Zgh, ↓Zgi, ↓Zgj, ↓Zgk, ↓Zgl, ↓Zgm, ↓Zgn, ↓Zgo, ↓Zgp, ↓Zgq, ↓Zgr, ↓Zgs, ↓Zgt, ↓Zgu, ↓Zgv, ↓Zgw, ↓Zgx, ↓Zgy, ↓Zgz, ↓Zha, ↓Zhb, ↓Zhc, ↓Zhd, ↓Zhe, ↓Zhf, ↓Zhg, ↓Zhh, ↓Zhi, ↓Zhj, ↓Zhk, ↓Zhl, ↓Zhm, ↓Zhn, ↓Zho, ↓Zhp, ↓Zhq, ↓Zhr, ↓Zhs, ↓Zht, ↓Zhu, ↓Zhv, ↓Zhw, ↓Zhx, ↓Zhy, ↓Zhz, ↓Zia, ↓Zib, ↓Zic, ↓Zid, ↓Zie, ↓Zif, ↓Zig, ↓Zih, ↓Zii, ↓Zij, ↓Zik, reduceIte, if_true, if_false, Bool.false_eq_true, Bool.and_true, Bool.true_and, Bool.and_false, Bool.false_and, Bool.or_true, Bool.true_or, Bool.or_false, Bool.false_or, Int.cast_ofNat_Int, Zil, Zim, beq_self_eq_true, Int.reduceBEq, Int.reduceLT, Int.reduceLE, Int.reduceEq, Int.reduceNeg, Nat.reduceLT, Zin, Zio, Ziq, Zir, Zis, Zit, Ziu, Ziv, Ziw, Zix, Ziy, Ziz, Zja, Zjb, Zjc, Zjd, Zje, Zjf, Zjg, Zjh, Zji, Zjj, Zjk, Zjl, Zjm, Zjn, Zjo, Zjp, Zjq, Zjr, Zjs, Zjt, Zju, Zjv, Zjw, Zjx, Zjy, Zjz, Zka, Zkb, Zkc, Zkd, Zke, Zkf, Zkg, Zkh, Zki, Zkj, Zkk, Zkl, Zkm, Zkn, Zko, Zkp, List.lookup_nil, Zkq, Zkr, Option.map_some, Option.map_none, Option.bind_some, Option.bind_none, List.map_nil, List.map_cons, List.nil_append, List.cons_append, List.append_nil, List.length_cons, List.length_nil, Nat.reduceAdd, Nat.reduceLeDiff, Nat.reduceEqDiff, Nat.reduceBEq, decide_true, decide_false, Bool.not_true, Bool.not_false, Zks, Zkt, Zku, Zkv, Zkw, Zkx, Zky, Zkz, Zla, Zlb, Zlc, Zld, Zle, Zlf, List.getElem?_cons_zero, List.getElem?_cons_succ, Zlg, Zlh, Zli, Zlj, Zlk, Zll, Zlm, Zln, Zlo, Zlp, Zlq, Zlr, Zls, Zlt, Zlu, Zlv, Zlw, Zlx, Zly, setX, Zlz, Zma, Zmb, Int.ofNat_lt, Int.ofNat_le, vec_atI hj, l_sub (sx0 j) (sxx j) (by omega)]
      exact ⟨rfl, rfl, trivial⟩
    simp -implicitDefEqProofs -dsimp only [↓Zaa, ↓Zab, ↓Zac, ↓Zad, ↓Zae, ↓Zaf, ↓Zag, ↓Zah, ↓Zai, ↓Zaj, ↓Zak, ↓Zal, ↓Zam, ↓Zan, ↓Zao, ↓Zap, ↓Zaq, ↓Zar, ↓Zas, ↓Zat, ↓Zau, ↓Zav, ↓Zaw, ↓Zax, ↓Zay, ↓Zaz, ↓Zba, ↓Zbb, ↓Zbc, ↓Zbd, ↓Zbe, ↓Zbf, ↓Zbg, ↓Zbh, ↓Zbi, ↓Zbj, ↓Zbk, ↓Zbl, ↓Zbm, ↓Zbn, ↓Zbo, ↓Zbp, ↓Zbq, ↓Zbr, ↓Zbs, ↓Zbt, ↓Zbu, ↓Zbv, ↓Zbw, ↓Zbx, ↓Zby, ↓Zbz, ↓Zca, ↓Zcb, ↓Zcc, ↓Zcd, ↓Zce, ↓Zcf, ↓Zcg, ↓Zch, ↓Zci, ↓Zcj, ↓Zck, ↓Zcl, ↓Zcm, ↓Zcn, ↓Zco, ↓Zcp, ↓Zcq, ↓Zcr, ↓Zcs, ↓Zct, ↓Zcu, ↓Zcv, ↓Zcw, ↓Zcx, ↓Zcy, ↓Zcz, ↓Zda, ↓Zdb, ↓Zdc, ↓Zdd, ↓Zde, ↓Zdf, ↓Zdg, ↓Zdh, ↓Zdi, ↓Zdj, ↓Zdk, ↓Zdl, ↓Zdm, ↓Zdn, ↓Zdo, ↓Zdp, ↓Zdq, ↓Zdr, ↓Zds, ↓Zdt, ↓Zdu, ↓Zdv, ↓Zdw, ↓Zdx, ↓Zdy, ↓Zdz, ↓Zea, ↓Zeb, ↓Zec, ↓Zed, ↓Zee, ↓Zef, ↓Zeg, ↓Zeh, ↓Zei, ↓Zej, ↓Zek, ↓Zel, ↓Zem, ↓Zen, ↓Zeo, ↓Zep, ↓Zeq, ↓Zer, ↓Zes, ↓Zet, ↓Zeu, ↓Zev, ↓Zew, ↓Zex, ↓Zey, ↓Zez, ↓Zfa, ↓Zfb, ↓Zfc, ↓Zfd, ↓Zfe, ↓Zff, ↓Zfg, ↓Zfh, ↓Zfi, ↓Zfj, ↓Zfk, ↓Zfl, ↓Zfm, ↓Zfn, ↓Zfo, ↓Zfp, ↓Zfq, ↓Zfr, ↓Zfs, ↓Zft, ↓Zfu, ↓Zfv, ↓Zfw, ↓Zfx, ↓Zfy, ↓Zfz, ↓Zga, ↓Zgb, ↓Zgc, ↓Zgd, ↓Zge, ↓Zgf, ↓Zgg, ↓Zgh, ↓Zgi, ↓Zgj, ↓Zgk, ↓Zgl, ↓Zgm, ↓Zgn, ↓Zgo, ↓Zgp, ↓Zgq, ↓Zgr, ↓Zgs, ↓Zgt, ↓Zgu, ↓Zgv, ↓Zgw, ↓Zgx, ↓Zgy, ↓Zgz, ↓Zha, ↓Zhb, ↓Zhc, ↓Zhd, ↓Zhe, ↓Zhf, ↓Zhg, ↓Zhh, ↓Zhi, ↓Zhj, ↓Zhk, ↓Zhl, ↓Zhm, ↓Zhn, ↓Zho, ↓Zhp, ↓Zhq, ↓Zhr, ↓Zhs, ↓Zht, ↓Zhu, ↓Zhv, ↓Zhw, ↓Zhx, ↓Zhy, ↓Zhz, ↓Zia, ↓Zib, ↓Zic, ↓Zid, ↓Zie, ↓Zif, ↓Zig, ↓Zih, ↓Zii, ↓Zij, ↓Zik, reduceIte, if_true, if_false, Bool.false_eq_true, Bool.and_true, Bool.true_and, Bool.and_false, Bool.false_and, Bool.or_true, Bool.true_or, Bool.or_false, Bool.false_or, Int.cast_ofNat_Int, Zil, Zim, beq_self_eq_true, Int.reduceBEq, Int.reduceLT, Int.reduceLE, Int.reduceEq, Int.reduceNeg, Nat.reduceLT, Zin, Zio, Ziq, Zir, Zis, Zit, Ziu, Ziv, Ziw, Zix, Ziy, Ziz, Zja, Zjb, Zjc, Zjd, Zje, Zjf, Zjg, Zjh, Zji, Zjj, Zjk, Zjl, Zjm, Zjn, Zjo, Zjp, Zjq, Zjr, Zjs, Zjt, Zju, Zjv, Zjw, Zjx, Zjy, Zjz, Zka, Zkb, Zkc, Zkd, Zke, Zkf, Zkg, Zkh, Zki, Zkj, Zkk, Zkl, Zkm, Zkn, Zko, Zkp, List.lookup_nil, Zkq, Zkr, Option.map_some, Option.map_none, Option.bind_some, Option.bind_none, List.map_nil, List.map_cons, List.nil_append, List.cons_append, List.append_nil, List.length_cons, List.length_nil, Nat.reduceAdd, Nat.reduceLeDiff, Nat.reduceEqDiff, Nat.reduceBEq, decide_true, decide_false, Bool.not_true, Bool.not_false, Zks, Zkt, Zku, Zkv, Zkw, Zkx, Zky, Zkz, Zla, Zlb, Zlc, Zld, Zle, Zlf, List.getElem?_cons_zero, List.getElem?_cons_succ, Zlg, Zlh, Zli, Zlj, Zlk, Zll, Zlm, Zln, Zlo, Zlp, Zlq, Zlr, Zls, Zlt, Zlu, Zlv, Zlw, Zlx, Zly, setX, Zlz, Zma, Zmb, Int.ofNat_lt, Int.ofNat_le]
    refine lc_mapZ (fun f => pD (x0 f - xx f)) (canWipe_1 rfl y9) (by simp only [wipeE, List.set_cons_zero, List.set_cons_succ]; rfl) (by omega) (fun f hf => ?_) ?_
    · simp -implicitDefEqProofs -dsimp only [↓Zaa, ↓Zab, ↓Zac, ↓Zad, ↓Zae, ↓Zaf, ↓Zag, ↓Zah, ↓Zai, ↓Zaj, ↓Zak, ↓Zal, ↓Zam, ↓Zan, ↓Zao, ↓Zap, ↓Zaq, ↓Zar, ↓Zas, ↓Zat, ↓Zau, ↓Zav, ↓Zaw, ↓Zax, ↓Zay, ↓Zaz, ↓Zba, ↓Zbb, ↓Zbc, ↓Zbd, ↓Zbe, ↓Zbf, ↓Zbg, ↓Zbh, ↓Zbi, ↓Zbj, ↓Zbk, ↓Zbl, ↓Zbm, ↓Zbn, ↓Zbo, ↓Zbp, ↓Zbq, ↓Zbr, ↓Zbs, ↓Zbt, ↓Zbu, ↓Zbv, ↓Zbw, ↓Zbx, ↓Zby, ↓Zbz, ↓Zca, ↓Zcb, ↓Zcc, ↓Zcd, ↓Zce, ↓Zcf, ↓Zcg, ↓Zch, ↓Zci, ↓Zcj, ↓Zck, ↓Zcl, ↓Zcm, ↓Zcn, ↓Zco, ↓Zcp, ↓Zcq, ↓Zcr, ↓Zcs, ↓Zct, ↓Zcu, ↓Zcv, ↓Zcw, ↓Zcx, ↓Zcy, ↓Zcz, ↓Zda, ↓Zdb, ↓Zdc, ↓Zdd, ↓Zde, ↓Zdf, ↓Zdg, ↓Zdh, ↓Zdi, ↓Zdj, ↓Zdk, ↓Zdl, ↓Zdm, ↓Zdn, ↓Zdo, ↓Zdp, ↓Zdq, ↓Zdr, ↓Zds, ↓Zdt, ↓Zdu, ↓Zdv, ↓Zdw, ↓Zdx, ↓Zdy, ↓Zdz, ↓Zea, ↓Zeb, ↓Zec, ↓Zed, ↓Zee, ↓Zef, ↓Zeg, ↓Zeh, ↓Zei, ↓Zej, ↓Zek, ↓Zel, ↓Zem, ↓Zen, ↓Zeo, ↓Zep, ↓Zeq, ↓Zer, ↓Zes, ↓Zet, ↓Zeu, ↓Zev, ↓Zew, ↓Zex, ↓Zey, ↓Zez, ↓Zfa, ↓Zfb, ↓Zfc, ↓Zfd, ↓Zfe, ↓Zff, ↓Zfg, ↓Zfh, ↓Zfi, ↓Zfj, ↓Zfk, ↓Zfl, ↓Zfm, ↓Zfn, ↓Zfo, ↓Zfp, ↓Zfq, ↓Zfr, ↓Zfs, ↓Zft, ↓Zfu, ↓Zfv, ↓Zfw, ↓Zfx, ↓Zfy, ↓Zfz, ↓Zga, ↓Zgb, ↓Zgc, ↓Zgd, ↓Zge, ↓Zgf, ↓Zgg, ↓Zgh, ↓Zgi, ↓Zgj, ↓Zgk, ↓Zgl, ↓Zgm, ↓Zgn, ↓Zgo, ↓Zgp, ↓Zgq, ↓Zgr, ↓Zgs, ↓Zgt, ↓Zgu, ↓Zgv, ↓Zgw, ↓Zgx, ↓Zgy, ↓Zgz, ↓Zha, ↓Zhb, ↓Zhc, ↓Zhd, ↓Zhe, ↓Zhf, ↓Zhg, ↓Zhh, ↓Zhi, ↓Zhj, ↓Zhk, ↓Zhl, ↓Zhm, ↓Zhn, ↓Zho, ↓Zhp, ↓Zhq, ↓Zhr, ↓Zhs, ↓Zht, ↓Zhu, ↓Zhv, ↓Zhw, ↓Zhx, ↓Zhy, ↓Zhz, ↓Zia, ↓Zib, ↓Zic, ↓Zid, ↓Zie, ↓Zif, ↓Zig, ↓Zih, ↓Zii, ↓Zij, ↓Zik, reduceIte, if_true, if_false, Bool.false_eq_true, Bool.and_true, Bool.true_and, Bool.and_false, Bool.false_and, Bool.or_true, Bool.true_or, Bool.or_false, Bool.false_or, Int.cast_ofNat_Int, Zil, Zim, beq_self_eq_true, Int.reduceBEq, Int.reduceLT, Int.reduceLE, Int.reduceEq, Int.reduceNeg, Nat.reduceLT, Zin, Zio, Ziq, Zir, Zis, Zit, Ziu, Ziv, Ziw, Zix, Ziy, Ziz, Zja, Zjb, Zjc, Zjd, Zje, Zjf, Zjg, Zjh, Zji, Zjj, Zjk, Zjl, Zjm, Zjn, Zjo, Zjp, Zjq, Zjr, Zjs, Zjt, Zju, Zjv, Zjw, Zjx, Zjy, Zjz, Zka, Zkb, Zkc, Zkd, Zke, Zkf, Zkg, Zkh, Zki, Zkj, Zkk, Zkl, Zkm, Zkn, Zko, Zkp, List.lookup_nil, Zkq, Zkr, Option.map_some, Option.map_none, Option.bind_some, Option.bind_none, List.map_nil, List.map_cons, List.nil_append, List.cons_append, List.append_nil, List.length_cons, List.length_nil, Nat.reduceAdd, Nat.reduceLeDiff, Nat.reduceEqDiff, Nat.reduceBEq, decide_true, decide_false, Bool.not_true, Bool.not_false, Zks, Zkt, Zku, Zkv, Zkw, Zkx, Zky, Zkz, Zla, Zlb, Zlc, Zld, Zle, Zlf, List.getElem?_cons_zero, List.getElem?_cons_succ, Zlg, Zlh, Zli, Zlj, Zlk, Zll, Zlm, Zln, Zlo, Zlp, Zlq, Zlr, Zls, Zlt, Zlu, Zlv, Zlw, Zlx, Zly, setX, Zlz, Zma, Zmb, Int.ofNat_lt, Int.ofNat_le, vec_atI (hFm f hf).1]
      exact ⟨rfl, rfl, trivial⟩
    have szg : ∀ j, Sz 103146 (x0 j - xx j) := fun j => ((sx0 j).sub' (sxx j)).mono (by decide)
    have cb := l_combine (h := F.length) (w := w) (a := 12500) (k := 103146) (r := fun i => kvec s (F.getD i 0) s.pv.length) (y := fun i => x0 (F.getD i 0) - xx (F.getD i 0)) (fun i j hi _ => ksz _ (hFk i hi) j) (fun i _ => szg _) (by omega) (by omega) (by omega) (A := .lst (F.map fun f => rowP w (kvec s f s.pv.length))) (B := .lst (F.map fun f => pD (x0 f - xx f))) (fun i => by rw [map_vec]; exact Zjh) (fun i => by rw [map_vec]; exact Zjh) (by rw [Zji, List.length_map])
    have eb : rowP w (fun j => sumN F.length fun i => (x0 (F.getD i 0) - xx (F.getD i 0)) * kvec s (F.getD i 0) s.pv.length j) = rowP w fun j => x0 j - xx j := by
      show D.tup _ = D.tup _
      rw [vec_ext fun j hj => congrArg pD (R.basis gapK hF.symm hj)]
    rw [eb] at cb
    have ep : pEq false (rowP w fun j => x0 j - xx j) (rowP w fun j => x0 j - xx j) = some (.d (.bl true)) := eq_prs row_prs
    simp -implicitDefEqProofs -dsimp only [↓Zaa, ↓Zab, ↓Zac, ↓Zad, ↓Zae, ↓Zaf, ↓Zag, ↓Zah, ↓Zai, ↓Zaj, ↓Zak, ↓Zal, ↓Zam, ↓Zan, ↓Zao, ↓Zap, ↓Zaq, ↓Zar, ↓Zas, ↓Zat, ↓Zau, ↓Zav, ↓Zaw, ↓Zax, ↓Zay, ↓Zaz, ↓Zba, ↓Zbb, ↓Zbc, ↓Zbd, ↓Zbe, ↓Zbf, ↓Zbg, ↓Zbh, ↓Zbi, ↓Zbj, ↓Zbk, ↓Zbl, ↓Zbm, ↓Zbn, ↓Zbo, ↓Zbp, ↓Zbq, ↓Zbr, ↓Zbs, ↓Zbt, ↓Zbu, ↓Zbv, ↓Zbw, ↓Zbx, ↓Zby, ↓Zbz, ↓Zca, ↓Zcb, ↓Zcc, ↓Zcd, ↓Zce, ↓Zcf, ↓Zcg, ↓Zch, ↓Zci, ↓Zcj, ↓Zck, ↓Zcl, ↓Zcm, ↓Zcn, ↓Zco, ↓Zcp, ↓Zcq, ↓Zcr, ↓Zcs, ↓Zct, ↓Zcu, ↓Zcv, ↓Zcw, ↓Zcx, ↓Zcy, ↓Zcz, ↓Zda, ↓Zdb, ↓Zdc, ↓Zdd, ↓Zde, ↓Zdf, ↓Zdg, ↓Zdh, ↓Zdi, ↓Zdj, ↓Zdk, ↓Zdl, ↓Zdm, ↓Zdn, ↓Zdo, ↓Zdp, ↓Zdq, ↓Zdr, ↓Zds, ↓Zdt, ↓Zdu, ↓Zdv, ↓Zdw, ↓Zdx, ↓Zdy, ↓Zdz, ↓Zea, ↓Zeb, ↓Zec, ↓Zed, ↓Zee, ↓Zef, ↓Zeg, ↓Zeh, ↓Zei, ↓Zej, ↓Zek, ↓Zel, ↓Zem, ↓Zen, ↓Zeo, ↓Zep, ↓Zeq, ↓Zer, ↓Zes, ↓Zet, ↓Zeu, ↓Zev, ↓Zew, ↓Zex, ↓Zey, ↓Zez, ↓Zfa, ↓Zfb, ↓Zfc, ↓Zfd, ↓Zfe, ↓Zff, ↓Zfg, ↓Zfh, ↓Zfi, ↓Zfj, ↓Zfk, ↓Zfl, ↓Zfm, ↓Zfn, ↓Zfo, ↓Zfp, ↓Zfq, ↓Zfr, ↓Zfs, ↓Zft, ↓Zfu, ↓Zfv, ↓Zfw, ↓Zfx, ↓Zfy, ↓Zfz, ↓Zga, ↓Zgb, ↓Zgc, ↓Zgd, ↓Zge, ↓Zgf, ↓Zgg, ↓Zgh, ↓Zgi, ↓Zgj, ↓Zgk, ↓Zgl, ↓Zgm, ↓Zgn, ↓Zgo, ↓Zgp, ↓Zgq, ↓Zgr, ↓Zgs, ↓Zgt, ↓Zgu, ↓Zgv, ↓Zgw, ↓Zgx, ↓Zgy, ↓Zgz, ↓Zha, ↓Zhb, ↓Zhc, ↓Zhd, ↓Zhe, ↓Zhf, ↓Zhg, ↓Zhh, ↓Zhi, ↓Zhj, ↓Zhk, ↓Zhl, ↓Zhm, ↓Zhn, ↓Zho, ↓Zhp, ↓Zhq, ↓Zhr, ↓Zhs, ↓Zht, ↓Zhu, ↓Zhv, ↓Zhw, ↓Zhx, ↓Zhy, ↓Zhz, ↓Zia, ↓Zib, ↓Zic, ↓Zid, ↓Zie, ↓Zif, ↓Zig, ↓Zih, ↓Zii, ↓Zij, ↓Zik, reduceIte, if_true, if_false, Bool.false_eq_true, Bool.and_true, Bool.true_and, Bool.and_false, Bool.false_and, Bool.or_true, Bool.true_or, Bool.or_false, Bool.false_or, Int.cast_ofNat_Int, Zil, Zim, beq_self_eq_true, Int.reduceBEq, Int.reduceLT, Int.reduceLE, Int.reduceEq, Int.reduceNeg, Nat.reduceLT, Zin, Zio, Ziq, Zir, Zis, Zit, Ziu, Ziv, Ziw, Zix, Ziy, Ziz, Zja, Zjb, Zjc, Zjd, Zje, Zjf, Zjg, Zjh, Zji, Zjj, Zjk, Zjl, Zjm, Zjn, Zjo, Zjp, Zjq, Zjr, Zjs, Zjt, Zju, Zjv, Zjw, Zjx, Zjy, Zjz, Zka, Zkb, Zkc, Zkd, Zke, Zkf, Zkg, Zkh, Zki, Zkj, Zkk, Zkl, Zkm, Zkn, Zko, Zkp, List.lookup_nil, Zkq, Zkr, Option.map_some, Option.map_none, Option.bind_some, Option.bind_none, List.map_nil, List.map_cons, List.nil_append, List.cons_append, List.append_nil, List.length_cons, List.length_nil, Nat.reduceAdd, Nat.reduceLeDiff, Nat.reduceEqDiff, Nat.reduceBEq, decide_true, decide_false, Bool.not_true, Bool.not_false, Zks, Zkt, Zku, Zkv, Zkw, Zkx, Zky, Zkz, Zla, Zlb, Zlc, Zld, Zle, Zlf, List.getElem?_cons_zero, List.getElem?_cons_succ, Zlg, Zlh, Zli, Zlj, Zlk, Zll, Zlm, Zln, Zlo, Zlp, Zlq, Zlr, Zls, Zlt, Zlu, Zlv, Zlw, Zlx, Zly, setX, Zlz, Zma, Zmb, Int.ofNat_lt, Int.ofNat_le, cb, ep]
end L2.S.W


set_option Elab.async false
set_option maxRecDepth 100000
open PySem PySem.W PyProof.Rows L2 L2.S L2.S.W
set_option maxRecDepth 100000 in
set_option maxHeartbeats 0 in
theorem PySem.Challenge.cw_seriesroads_k05_kernel_vectors_holds : PySem.Challenge.rw_seriesroads_k05_kernel_vectors.Holds := by
  w_on; o_law; x_head; (case hw => w_witness2)
  k_fill
  refine L2.S.walk_S (l := PySem.Challenge.rw_seriesroads_k05_kernel_vectors) (k := 56) (φ := L2.S.W.φ_law) rfl rfl ⟨rfl, by decide, by decide⟩ (fun w h Y => PySem.W.kIn_of Y) L2.S.W.the_law ?F
  case F =>
    intro w mg fa h KX G hmg
    refine' all_mk KX G hmg ?s1 ?s2 ?s3 ?s4 ?s5 ?s6 ?s7 ?h_m__unit ?h_m__eliminate ?h_m__law_cell ?h_m__law_draws ?h_m__law_gcd ?h_m__law_rat ?h_m__law_add ?h_m__law_mul ?h_m__law_is_integer ?h_m__law_pair ?h_m__law_pairs ?h_m__law_ratios ?h_m__law_small ?h_m__law_matrix ?h_m__law_dot ?h_m__law_combine ?h_m__law_to_matrix ?h_m_law ?h_m_Fault ?h_m_ZeroDivisor ?h_m_Ratio ?h_m_Matrix ?h_m_gcd ?h_z_range ?h_z_int ?h_z_len ?h_z_zip ?h_z_abs ?h_z_isinstance ?h_z_bool ?h_z_tuple ?h_z_list ?h_in_Matrix ?h_in_Ratio ?h_op_Ratio_mul ?h_op_Ratio_sub ?h_me_Ratio_inverse ?h_op_Ratio_neg ?h_me_Matrix_reduced ?h_me_Ratio_over ?h_me_Matrix_solve ?h_me_Matrix_kernel ?h_l_Ratio_init ?h_l_unit ?h_l_Ratio_sub ?h_l_Ratio_mul ?h_l_Ratio_inverse ?h_l_eliminate ?h_l_law_cell ?h_l_law_draws ?h_l_law_gcd ?h_l_law_rat ?h_l_law_add ?h_l_law_mul ?h_l_law_is_integer ?h_l_law_pair ?h_l_law_pairs ?h_l_law_ratios ?h_l_law_small ?h_l_law_matrix ?h_l_law_dot ?h_l_law_combine ?h_l_Matrix_init ?h_l_law_to_matrix ?h_l_Matrix_reduced ?h_l_Ratio_neg ?h_l_Matrix_kernel ?h_l_Ratio_over ?h_l_Matrix_solve ?h_l_law ?h_c_Ratio_init ?h_d_Ratio_init ?h_v_Ratio_init ?h_k_Ratio_init ?h_c_unit ?h_k_unit ?h_c_Ratio_sub ?h_k_Ratio_sub ?h_c_Ratio_mul ?h_k_Ratio_mul ?h_c_Ratio_inverse ?h_k_Ratio_inverse ?h_c_eliminate ?h_k_eliminate ?h_c_law_cell ?h_k_law_cell ?h_c_law_draws ?h_k_law_draws ?h_c_law_gcd ?h_k_law_gcd ?h_c_law_rat ?h_k_law_rat ?h_c_law_add ?h_k_law_add ?h_c_law_mul ?h_k_law_mul ?h_c_law_is_integer ?h_k_law_is_integer ?h_c_law_pair ?h_k_law_pair ?h_c_law_pairs ?h_k_law_pairs ?h_c_law_ratios ?h_k_law_ratios ?h_c_law_small ?h_k_law_small ?h_c_law_matrix ?h_k_law_matrix ?h_c_law_dot ?h_k_law_dot ?h_c_law_combine ?h_k_law_combine ?h_c_Matrix_init ?h_k_Matrix_init ?h_c_law_to_matrix ?h_k_law_to_matrix ?h_c_Matrix_reduced ?h_k_Matrix_reduced ?h_c_Ratio_neg ?h_k_Ratio_neg ?h_c_Matrix_kernel ?h_k_Matrix_kernel ?h_c_Ratio_over ?h_k_Ratio_over ?h_c_Matrix_solve ?h_k_Matrix_solve ?h_c_law ?h_k_law ?h_mk_Matrix ?h_kc_Matrix ?h_mk_Ratio ?h_kc_Ratio ?h_xi_ZeroDivisor ?h_kx_ZeroDivisor ?h_sx_ZeroDivisor ?h_tx_ZeroDivisor ?h_pg_Ratio ?h_hd_Ratio ?h_po_Ratio ?h_sa_Ratio ?h_na_Ratio_n ?h_na_Ratio_d ?h_fn_Ratio_mul ?h_sf_Ratio ?h_fn_Ratio_sub ?h_fn_Ratio_inverse ?h_is_int_Matrix ?h_ca_Matrix ?h_cn_ ?h_ct_ ?h_ob_Matrix ?h_pg_Matrix ?h_hd_Matrix ?h_po_Matrix ?h_sa_Matrix ?h_na_Matrix_rows ?h_na_Matrix_width ?h_is_int_Ratio ?h_ca_Ratio ?h_ob_Ratio ?h_is_bool_Matrix ?h_is_bool_Ratio ?h_is_Ratio_Matrix ?h_is_Ratio_Ratio ?h_is_Ratio_5 ?h_is_Ratio_4 ?h_is_Ratio_3 ?h_is_Ratio_2 ?h_is_Ratio_1 ?h_is_Ratio_0 ?h_is_tuple_Matrix ?h_is_tuple_Ratio ?h_fn_Ratio_neg ?h_fn_Matrix_reduced ?h_fn_Ratio_over ?h_fn_Matrix_solve ?h_fn_Matrix_kernel ?h_fn_Matrix_init ?h_fn_Ratio_init
    (case s1 => k_is)
    (case s2 => k_is)
    (case s3 => k_is)
    (case s4 => k_is)
    (case s5 => kernel_rfl)
    (case s6 => k_is)
    (case s7 => k_is)
    (case h_m__unit => k_is)
    (case h_m__eliminate => k_is)
    (case h_m__law_cell => k_is)
    (case h_m__law_draws => k_is)
    (case h_m__law_gcd => k_is)
    (case h_m__law_rat => k_is)
    (case h_m__law_add => k_is)
    (case h_m__law_mul => k_is)
    (case h_m__law_is_integer => k_is)
    (case h_m__law_pair => k_is)
    (case h_m__law_pairs => k_is)
    (case h_m__law_ratios => k_is)
    (case h_m__law_small => k_is)
    (case h_m__law_matrix => k_is)
    (case h_m__law_dot => k_is)
    (case h_m__law_combine => k_is)
    (case h_m__law_to_matrix => k_is)
    (case h_m_law => k_is)
    (case h_m_Fault => k_is)
    (case h_m_ZeroDivisor => k_is)
    (case h_m_Ratio => k_is)
    (case h_m_Matrix => k_is)
    (case h_m_gcd => k_is)
    (case h_z_range => k_is)
    (case h_z_int => k_is)
    (case h_z_len => k_is)
    (case h_z_zip => k_is)
    (case h_z_abs => k_is)
    (case h_z_isinstance => k_is)
    (case h_z_bool => k_is)
    (case h_z_tuple => k_is)
    (case h_z_list => k_is)
    (case h_in_Matrix => k_is)
    (case h_in_Ratio => k_is)
    (case h_op_Ratio_mul => k_is)
    (case h_op_Ratio_sub => k_is)
    (case h_me_Ratio_inverse => k_is)
    (case h_op_Ratio_neg => k_is)
    (case h_me_Matrix_reduced => k_is)
    (case h_me_Ratio_over => k_is)
    (case h_me_Matrix_solve => k_is)
    (case h_me_Matrix_kernel => k_is)
    (case h_l_Ratio_init => k_is)
    (case h_l_unit => k_is)
    (case h_l_Ratio_sub => k_is)
    (case h_l_Ratio_mul => k_is)
    (case h_l_Ratio_inverse => k_is)
    (case h_l_eliminate => k_is)
    (case h_l_law_cell => k_is)
    (case h_l_law_draws => k_is)
    (case h_l_law_gcd => k_is)
    (case h_l_law_rat => k_is)
    (case h_l_law_add => k_is)
    (case h_l_law_mul => k_is)
    (case h_l_law_is_integer => k_is)
    (case h_l_law_pair => k_is)
    (case h_l_law_pairs => k_is)
    (case h_l_law_ratios => k_is)
    (case h_l_law_small => k_is)
    (case h_l_law_matrix => k_is)
    (case h_l_law_dot => k_is)
    (case h_l_law_combine => k_is)
    (case h_l_Matrix_init => k_is)
    (case h_l_law_to_matrix => k_is)
    (case h_l_Matrix_reduced => k_is)
    (case h_l_Ratio_neg => k_is)
    (case h_l_Matrix_kernel => k_is)
    (case h_l_Ratio_over => k_is)
    (case h_l_Matrix_solve => k_is)
    (case h_l_law => k_is)
    (case h_c_Ratio_init => k_is)
    (case h_d_Ratio_init => k_is)
    (case h_v_Ratio_init => exact (.cons ⟨_, rfl⟩ .nil))
    (case h_k_Ratio_init => k_is)
    (case h_c_unit => k_is)
    (case h_k_unit => k_is)
    (case h_c_Ratio_sub => k_is)
    (case h_k_Ratio_sub => k_is)
    (case h_c_Ratio_mul => k_is)
    (case h_k_Ratio_mul => k_is)
    (case h_c_Ratio_inverse => k_is)
    (case h_k_Ratio_inverse => k_is)
    (case h_c_eliminate => k_is)
    (case h_k_eliminate => k_is)
    (case h_c_law_cell => k_is)
    (case h_k_law_cell => k_is)
    (case h_c_law_draws => k_is)
    (case h_k_law_draws => k_is)
    (case h_c_law_gcd => k_is)
    (case h_k_law_gcd => k_is)
    (case h_c_law_rat => k_is)
    (case h_k_law_rat => k_is)
    (case h_c_law_add => k_is)
    (case h_k_law_add => k_is)
    (case h_c_law_mul => k_is)
    (case h_k_law_mul => k_is)
    (case h_c_law_is_integer => k_is)
    (case h_k_law_is_integer => k_is)
    (case h_c_law_pair => k_is)
    (case h_k_law_pair => k_is)
    (case h_c_law_pairs => k_is)
    (case h_k_law_pairs => k_is)
    (case h_c_law_ratios => k_is)
    (case h_k_law_ratios => k_is)
    (case h_c_law_small => k_is)
    (case h_k_law_small => k_is)
    (case h_c_law_matrix => k_is)
    (case h_k_law_matrix => k_is)
    (case h_c_law_dot => k_is)
    (case h_k_law_dot => k_is)
    (case h_c_law_combine => k_is)
    (case h_k_law_combine => k_is)
    (case h_c_Matrix_init => k_is)
    (case h_k_Matrix_init => k_is)
    (case h_c_law_to_matrix => k_is)
    (case h_k_law_to_matrix => k_is)
    (case h_c_Matrix_reduced => k_is)
    (case h_k_Matrix_reduced => k_is)
    (case h_c_Ratio_neg => k_is)
    (case h_k_Ratio_neg => k_is)
    (case h_c_Matrix_kernel => k_is)
    (case h_k_Matrix_kernel => k_is)
    (case h_c_Ratio_over => k_is)
    (case h_k_Ratio_over => k_is)
    (case h_c_Matrix_solve => k_is)
    (case h_k_Matrix_solve => k_is)
    (case h_c_law => k_is)
    (case h_k_law => k_is)
    (case h_mk_Matrix => k_is)
    (case h_kc_Matrix => k_is)
    (case h_mk_Ratio => k_is)
    (case h_kc_Ratio => k_is)
    (case h_xi_ZeroDivisor => first | k_is | rfl | kernel_rfl)
    (case h_kx_ZeroDivisor => k_is)
    (case h_sx_ZeroDivisor => k_is)
    (case h_tx_ZeroDivisor => k_is)
    (case h_pg_Ratio => k_is)
    (case h_hd_Ratio => k_is)
    (case h_po_Ratio => k_is)
    (case h_sa_Ratio => k_is)
    (case h_na_Ratio_n => k_is)
    (case h_na_Ratio_d => k_is)
    (case h_fn_Ratio_mul => k_is)
    (case h_sf_Ratio => k_is)
    (case h_fn_Ratio_sub => k_is)
    (case h_fn_Ratio_inverse => k_is)
    (case h_is_int_Matrix => first | k_is | rfl | kernel_rfl)
    (case h_ca_Matrix => k_is)
    (case h_cn_ => k_is)
    (case h_ct_ => k_is)
    (case h_ob_Matrix => k_is)
    (case h_pg_Matrix => k_is)
    (case h_hd_Matrix => k_is)
    (case h_po_Matrix => k_is)
    (case h_sa_Matrix => k_is)
    (case h_na_Matrix_rows => k_is)
    (case h_na_Matrix_width => k_is)
    (case h_is_int_Ratio => first | k_is | rfl | kernel_rfl)
    (case h_ca_Ratio => k_is)
    (case h_ob_Ratio => k_is)
    (case h_is_bool_Matrix => first | k_is | rfl | kernel_rfl)
    (case h_is_bool_Ratio => first | k_is | rfl | kernel_rfl)
    (case h_is_Ratio_Matrix => first | k_is | rfl | kernel_rfl)
    (case h_is_Ratio_Ratio => first | k_is | rfl | kernel_rfl)
    (case h_is_Ratio_5 => first | k_is | rfl | kernel_rfl)
    (case h_is_Ratio_4 => first | k_is | rfl | kernel_rfl)
    (case h_is_Ratio_3 => first | k_is | rfl | kernel_rfl)
    (case h_is_Ratio_2 => first | k_is | rfl | kernel_rfl)
    (case h_is_Ratio_1 => first | k_is | rfl | kernel_rfl)
    (case h_is_Ratio_0 => first | k_is | rfl | kernel_rfl)
    (case h_is_tuple_Matrix => first | k_is | rfl | kernel_rfl)
    (case h_is_tuple_Ratio => first | k_is | rfl | kernel_rfl)
    (case h_fn_Ratio_neg => k_is)
    (case h_fn_Matrix_reduced => k_is)
    (case h_fn_Ratio_over => k_is)
    (case h_fn_Matrix_solve => k_is)
    (case h_fn_Matrix_kernel => k_is)
    (case h_fn_Matrix_init => k_is)
    (case h_fn_Ratio_init => k_is)
#print axioms PySem.Challenge.cw_seriesroads_k05_kernel_vectors_holds
