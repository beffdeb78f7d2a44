import PyProof.Rows.All
import Wide.All
import OpenK.AllK
import Wide.FinOn
import HandS.ForMost
import HandS.Exc
import HandS.TryOnly
import HandS.TryMany
import HandS.ExcOwn
import HandS.WordsExc
import HandS.Wide
import HandS.WideBits
import HandS.Gcd
import HandS.OwnEq
import HandS.Property
import HandS.IsInst
import HandS.Flow
import HandS.Conv
import HandS.TupAny
import HandS.TupMul
import HandS.Style
import HandS.StrMore
import KE.KOpsOwn
import HandS.SlotsOwn
import HandS.ExcField
import HandS.Defaults
import HandS.CallRecv
import HandS.EndBits
import HandS.ExcIs
import KE.KExcIs
import HandS.Text
import HandS.Zip
import HandS.Deep
import KE.GoesEnum
import PyProof.EnumMake
import PyProof.EnumFor
import OpenK.KOps
import HandS.ExcInit
import KE.KExcSuper
import HandS.IterNext
import KE.KOwnIterCall
import KE.KCallOwn
import HandS.Star
import PyProof.ListStr
import PyProof.Rows.StrRev
import OpenK.KMeth
import PyProof.NeKinds
import KE.GoesMore
import OpenK.XHead
import PySem.Challenge.RW_seriesroads_k49_whole_borders_and_critic
set_option Elab.async false
set_option linter.all false
set_option maxRecDepth 100000
set_option maxHeartbeats 4000000
namespace L2.S
open PySem PySem.Spec PyProof.Rows

inductive D where
  | non | bl (b : Bool) | int (i : Int) | str (l : List Nat)
  | tup (xs : List D) | lst (xs : List D) | ro (xs : List D) | obj (c : Nat) (xs : List D) | fn (k : Nat) | ty (n : String) | cls (c : Nat) | exv (a : Addr) (d : Option Addr) (c : Nat) (xs : List D)
inductive OB where
  | l (xs : List D) | s (c : Nat) (xs : List D)
inductive SV where
  | un | val (d : D) | own (b : Bool) (o : OB)
inductive RV where
  | d (d : D) | o (o : OB)
structure Ex where
  c : Nat
  fs : List D
abbrev Env' := List SV
inductive R where
  | ok (r : RV) (e : Env') | ex (x : Ex) (e : Env') | no
inductive AV where
  | d (d : D) | s (i : Nat)
inductive RA where
  | ok (as : List AV) (e : Env') | ex (x : Ex) (e : Env') | no
inductive RT where
  | ok (b : Bool) (e : Env') | ex (x : Ex) (e : Env') | no
inductive RS where
  | nx (e : Env') | bk (e : Env') | ct (e : Env') | rt (r : RV) (e : Env') | ex (x : Ex) (e : Env') | no
inductive RD where
  | ok (r : RV) (outs : List OB) | ex (x : Ex) (outs : List OB) | no

structure Tb where
  K : PySem.W.Frag
  cl : Nat → Addr
  fl : Nat → List Str
  ec : Nat → Addr
  ef : Nat → List Str
  fn : Nat → Addr

mutual
inductive Rep (T : Tb) (Z : Hp) : V → D → Prop
  | non : Rep T Z .non .non
  | bl (b : Bool) : Rep T Z (.bl b) (.bl b)
  | int (i : Int) : Rep T Z (.int i) (.int i)
  | str (l : List Nat) : Rep T Z (.str ⟨l.toArray⟩) (.str l)
  | tup {a : Addr} {vs : List V} {ds : List D} (h : SqT T.K Z a vs) (r : Reps T Z vs ds) : Rep T Z (.ref a) (.tup ds)
  | lst {a : Addr} {vs : List V} {ds : List D} (h : Z a = some (.lst vs)) (r : Reps T Z vs ds) : Rep T Z (.ref a) (.lst ds)
  | ro {a : Addr} {vs : List V} {ds : List D} (h : SqL T.K Z a vs) (r : Reps T Z vs ds) : Rep T Z (.ref a) (.ro ds)
  | obj {a dx : Addr} {vs : List V} {c : Nat} {ds : List D} (h : Z a = some (.ins (T.cl c) dx ((T.fl c).zip vs))) (n : vs.length = (T.fl c).length) (r : Reps T Z vs ds) : Rep T Z (.ref a) (.obj c ds)
  | fn (k : Nat) : Rep T Z (.ref (T.fn k)) (.fn k)
  | ty (n : String) : Rep T Z (.ty n) (.ty n)
  | cls (k : Nat) : Rep T Z (.ref (T.cl k)) (.cls k)
  | exv0 {a : Addr} {c : Nat} : Rep T Z (.ref a) (.exv a none c [])
  | exv {a dd : Addr} {vs : List V} {c : Nat} {ds : List D} (h : Z dd = some (.xd ((T.ef c).zip vs))) (n : vs.length = (T.ef c).length) (r : Reps T Z vs ds) : Rep T Z (.ref a) (.exv a (some dd) c ds)
inductive Reps (T : Tb) (Z : Hp) : List V → List D → Prop
  | nil : Reps T Z [] []
  | cons {v : V} {d : D} {vs : List V} {ds : List D} (h : Rep T Z v d) (r : Reps T Z vs ds) : Reps T Z (v :: vs) (d :: ds)
end
theorem sqt_mono {K : PySem.W.Frag} {Z Z' : Hp} {a : Addr} {vs : List V} (s : Same Z Z') (h : SqT K Z a vs) : SqT K Z' a vs := by
  rcases h with (h | ⟨o, h⟩) | h
  · exact .inl (.inl (s _ _ h))
  · exact .inl (.inr ⟨o, s _ _ h⟩)
  · exact .inr h
mutual
theorem Rep.mono {T : Tb} {Z Z' : Hp} (s : Same Z Z') : ∀ {v : V} {d : D}, Rep T Z v d → Rep T Z' v d
  | _, _, .non => .non
  | _, _, .bl b => .bl b
  | _, _, .int i => .int i
  | _, _, .str l => .str l
  | _, _, .tup h r => .tup (sqt_mono s h) (Reps.mono s r)
  | _, _, .lst h r => .lst (s _ _ h) (Reps.mono s r)
  | _, _, .ro h r => .ro (s.seq h) (Reps.mono s r)
  | _, _, .obj h n r => .obj (s _ _ h) n (Reps.mono s r)
  | _, _, .fn k => .fn k
  | _, _, .ty k => .ty k
  | _, _, .cls k => .cls k
  | _, _, .exv0 => .exv0
  | _, _, .exv h n r => .exv (s _ _ h) n (Reps.mono s r)
theorem Reps.mono {T : Tb} {Z Z' : Hp} (s : Same Z Z') : ∀ {vs : List V} {ds : List D}, Reps T Z vs ds → Reps T Z' vs ds
  | _, _, .nil => .nil
  | _, _, .cons h r => .cons (Rep.mono s h) (Reps.mono s r)
end
section
variable {T : Tb} {Z : Hp}
theorem Reps.length : ∀ {vs : List V} {ds : List D}, Reps T Z vs ds → vs.length = ds.length
  | _, _, .nil => rfl
  | _, _, .cons _ r => by rw [List.length_cons, List.length_cons, Reps.length r]
theorem Reps.get : ∀ {vs : List V} {ds : List D} {i : Nat} {d : D}, Reps T Z vs ds → ds[i]? = some d → ∃ v, vs[i]? = some v ∧ Rep T Z v d
  | _, _, i, _, .nil, h => by simp at h
  | _, _, 0, _, .cons h r, e => by simp at e; subst e; exact ⟨_, rfl, h⟩
  | _, _, i + 1, _, .cons h r, e => by
    obtain ⟨v, h1, h2⟩ := Reps.get (i := i) r (by simpa using e)
    exact ⟨v, by simpa using h1, h2⟩
theorem Reps.get' : ∀ {vs : List V} {ds : List D} {i : Nat} {v : V}, Reps T Z vs ds → vs[i]? = some v → ∃ d, ds[i]? = some d ∧ Rep T Z v d
  | _, _, i, _, .nil, h => by simp at h
  | _, _, 0, _, .cons h r, e => by simp at e; subst e; exact ⟨_, rfl, h⟩
  | _, _, i + 1, _, .cons h r, e => by
    obtain ⟨v, h1, h2⟩ := Reps.get' (i := i) r (by simpa using e)
    exact ⟨v, by simpa using h1, h2⟩
theorem Reps.append : ∀ {vs ws : List V} {ds es : List D}, Reps T Z vs ds → Reps T Z ws es → Reps T Z (vs ++ ws) (ds ++ es)
  | _, _, _, _, .nil, q => q
  | _, _, _, _, .cons h r, q => .cons h (Reps.append r q)
theorem Reps.set {v : V} {d : D} (h : Rep T Z v d) : ∀ {vs : List V} {ds : List D} (i : Nat), Reps T Z vs ds → Reps T Z (vs.set i v) (ds.set i d)
  | _, _, _, .nil => .nil
  | _, _, 0, .cons _ r => .cons h r
  | _, _, i + 1, .cons g r => .cons g (Reps.set h i r)
theorem Reps.take : ∀ {vs : List V} {ds : List D} (n : Nat), Reps T Z vs ds → Reps T Z (vs.take n) (ds.take n)
  | _, _, 0, _ => .nil
  | _, _, _ + 1, .nil => .nil
  | _, _, n + 1, .cons h r => .cons h (Reps.take n r)
theorem Reps.drop : ∀ {vs : List V} {ds : List D} (n : Nat), Reps T Z vs ds → Reps T Z (vs.drop n) (ds.drop n)
  | _, _, 0, r => r
  | _, _, _ + 1, .nil => .nil
  | _, _, n + 1, .cons _ r => Reps.drop n r
theorem Reps.reverse {vs : List V} {ds : List D} (r : Reps T Z vs ds) : Reps T Z vs.reverse ds.reverse := by
  induction vs generalizing ds with
  | nil => cases r; exact .nil
  | cons v vs ih =>
    cases r with
    | cons h r =>
      rw [List.reverse_cons, List.reverse_cons]
      exact (ih r).append (.cons h .nil)
end

def ORep (T : Tb) (Z : Hp) (h : HO) : OB → Prop
  | .l xs => ∃ vs, h = .lst vs ∧ Reps T Z vs xs
  | .s c xs => ∃ dx vs, h = .ins (T.cl c) dx ((T.fl c).zip vs) ∧ vs.length ≤ (T.fl c).length ∧ Reps T Z vs xs
theorem ORep.mono {T : Tb} {Z Z' : Hp} (s : Same Z Z') {h : HO} : ∀ {o : OB}, ORep T Z h o → ORep T Z' h o
  | .l _, ⟨vs, e, r⟩ => ⟨vs, e, r.mono s⟩
  | .s _ _, ⟨dx, vs, e, n, r⟩ => ⟨dx, vs, e, n, r.mono s⟩
structure Gd where
  g : Hp
  z : Hp
def Own (σ : St) (env : Env') (i : Nat) (a : Addr) : Prop := (∃ b o, env[i]? = some (.own b o)) ∧ σ[i]? = some (some (.ref a))
structure EOk (T : Tb) (G : Gd) (B : List (Nat × Addr)) (Z H : Hp) (σ : St) (env : Env') : Prop where
  len : σ.length = env.length
  sub : Same Z H
  nof : ∀ a, G.g a ≠ none → G.z a = none → Z a = none
  keep : ∀ a o, G.g a = some o → (∀ i, (i, a) ∉ B) → H a = some o
  val : ∀ (i : Nat) (d : D), env[i]? = some (.val d) → ∃ v, σ[i]? = some (some v) ∧ Rep T Z v d
  own : ∀ (i : Nat) (b : Bool) (o : OB), env[i]? = some (.own b o) → ∃ a h, σ[i]? = some (some (.ref a)) ∧ H a = some h ∧ ORep T Z h o ∧ Z a = none ∧ ((b = true ∧ (i, a) ∈ B) ∨ (b = false ∧ G.g a = none))
  bor : ∀ (i : Nat) (a : Addr), (i, a) ∈ B → (∃ o, env[i]? = some (.own true o)) ∧ σ[i]? = some (some (.ref a))
  dis : ∀ i j a, i ≠ j → Own σ env i a → ¬ Own σ env j a
def RRep (T : Tb) (G : Gd) (Z H : Hp) (σ : St) (env : Env') (v : V) : RV → Prop
  | .d d => Rep T Z v d
  | .o o => ∃ a h, v = .ref a ∧ H a = some h ∧ ORep T Z h o ∧ Z a = none ∧ G.g a = none ∧ ∀ i, ¬ Own σ env i a
def XRep (T : Tb) (Z H : Hp) (cls : Value) (d : Option Addr) (x : Ex) : Prop :=
  cls = .ref (T.ec x.c) ∧ ((T.ef x.c = [] ∧ x.fs = [] ∧ d = none) ∨ (∃ dd vs, T.ef x.c ≠ [] ∧ d = some dd ∧ Z dd = some (.xd ((T.ef x.c).zip vs)) ∧ vs.length = (T.ef x.c).length ∧ Reps T Z vs x.fs))

def PR (T : Tb) (W : WX) (G : Gd) (B : List (Nat × Addr)) (Z : Hp) (σ : St) (Q : VK) : R → Prop
  | .ok r e => ∀ v H' Z', Same Z Z' → EOk T G B Z' H' σ e → RRep T G Z' H' σ e v r → Q v H'
  | .ex x e => ∀ cls d H' Z', Same Z Z' → EOk T G B Z' H' σ e → XRep T Z' H' cls d x → W cls d σ H'
  | .no => False
def tX (T : Tb) (W : WX) (f : Env' → R) : TE := fun σ H Q => ∃ G B Z env, EOk T G B Z H σ env ∧ PR T W G B Z σ Q (f env)
def SE (X : Cx) (T : Tb) (W : WX) (e : Expr) (f : Env' → R) : Prop := PE X e (tX T W f)
def PRT (T : Tb) (W : WX) (G : Gd) (B : List (Nat × Addr)) (Z : Hp) (σ : St) (Q : Bool → Hp → Prop) : RT → Prop
  | .ok b e => ∀ H' Z', Same Z Z' → EOk T G B Z' H' σ e → Q b H'
  | .ex x e => ∀ cls d H' Z', Same Z Z' → EOk T G B Z' H' σ e → XRep T Z' H' cls d x → W cls d σ H'
  | .no => False
def tXT (T : Tb) (W : WX) (f : Env' → RT) : TT := fun σ H Q => ∃ G B Z env, EOk T G B Z H σ env ∧ PRT T W G B Z σ Q (f env)
def ST (X : Cx) (T : Tb) (W : WX) (e : Expr) (f : Env' → RT) : Prop := PT X e (tXT T W f)
def AVOk (T : Tb) (Z : Hp) (σ : St) : List V → List AV → Prop
  | [], [] => True
  | v :: vs, .d d :: as => Rep T Z v d ∧ AVOk T Z σ vs as
  | v :: vs, .s i :: as => σ[i]? = some (some v) ∧ AVOk T Z σ vs as
  | _, _ => False
def PRA (T : Tb) (W : WX) (G : Gd) (B : List (Nat × Addr)) (Z : Hp) (σ : St) (Q : List V → Hp → Prop) : RA → Prop
  | .ok as e => ∀ vs H' Z', Same Z Z' → EOk T G B Z' H' σ e → AVOk T Z' σ vs as → Q vs H'
  | .ex x e => ∀ cls d H' Z', Same Z Z' → EOk T G B Z' H' σ e → XRep T Z' H' cls d x → W cls d σ H'
  | .no => False
def tXA (T : Tb) (W : WX) (f : Env' → RA) : TA := fun σ H Q => ∃ G B Z env, EOk T G B Z H σ env ∧ PRA T W G B Z σ Q (f env)
def SA (X : Cx) (T : Tb) (W : WX) (es : List Expr) (f : Env' → RA) : Prop := PA X es (tXA T W f)
def PRS (T : Tb) (W : WX) (G : Gd) (B : List (Nat × Addr)) (Z : Hp) (K : Ends) : RS → Prop
  | .nx e => ∀ σ' H' Z', Same Z Z' → EOk T G B Z' H' σ' e → K.nx σ' H'
  | .bk e => ∀ σ' H' Z', Same Z Z' → EOk T G B Z' H' σ' e → K.bk σ' H'
  | .ct e => ∀ σ' H' Z', Same Z Z' → EOk T G B Z' H' σ' e → K.ct σ' H'
  | .rt r e => ∀ v σ' H' Z', Same Z Z' → EOk T G B Z' H' σ' e → RRep T G Z' H' σ' e v r → K.rt v H'
  | .ex x e => ∀ cls d σ' H' Z', Same Z Z' → EOk T G B Z' H' σ' e → XRep T Z' H' cls d x → W cls d σ' H'
  | .no => False
def tXS (T : Tb) (W : WX) (f : Env' → RS) : TS := fun K σ H => ∃ G B Z env, EOk T G B Z H σ env ∧ PRS T W G B Z K (f env)
def SS (X : Cx) (T : Tb) (W : WX) (st : Stmt) (f : Env' → RS) : Prop := PS X st (tXS T W f)
def SSs (X : Cx) (T : Tb) (W : WX) (st : List Stmt) (f : Env' → RS) : Prop := PSs X st (tXS T W f)

theorem PE.weak {X : Cx} {e : Expr} {t t' : TE} (h : PE X e t) (w : ∀ σ H Q, t' σ H Q → t σ H Q) : PE X e t' := ⟨fun pins s σ H Q I q => h.run pins s σ H Q I (w _ _ _ q)⟩
theorem PT.weak {X : Cx} {e : Expr} {t t' : TT} (h : PT X e t) (w : ∀ σ H Q, t' σ H Q → t σ H Q) : PT X e t' := ⟨fun pins s σ H Q I q => h.run pins s σ H Q I (w _ _ _ q)⟩
theorem PA.weak {X : Cx} {e : List Expr} {t t' : TA} (h : PA X e t) (w : ∀ σ H Q, t' σ H Q → t σ H Q) : PA X e t' := ⟨fun pos pins s σ H Q I q => h.run pos pins s σ H Q I (w _ _ _ q)⟩
theorem PS.weak {X : Cx} {e : Stmt} {t t' : TS} (h : PS X e t) (w : ∀ K σ H, t' K σ H → t K σ H) : PS X e t' := ⟨fun pins s σ H Q I q => h.run pins s σ H Q I (w _ _ _ q)⟩
theorem PSs.weak {X : Cx} {e : List Stmt} {t t' : TS} (h : PSs X e t) (w : ∀ K σ H, t' K σ H → t K σ H) : PSs X e t' := ⟨fun pins s σ H Q I q => h.run pins s σ H Q I (w _ _ _ q)⟩
section
variable {T : Tb} {W : WX} {G : Gd} {B : List (Nat × Addr)} {Z Z' H H' : Hp} {σ : St}
theorem PR.mono (s : Same Z Z') {Q : VK} : ∀ {r : R}, PR T W G B Z σ Q r → PR T W G B Z' σ Q r
  | .ok _ _, h => fun v H' Z'' s' e r => h v H' Z'' (s.trans s') e r
  | .ex _ _, h => fun c d H' Z'' s' e r => h c d H' Z'' (s.trans s') e r
  | .no, h => h
theorem PRT.mono (s : Same Z Z') {Q : Bool → Hp → Prop} : ∀ {r : RT}, PRT T W G B Z σ Q r → PRT T W G B Z' σ Q r
  | .ok _ _, h => fun H' Z'' s' e => h H' Z'' (s.trans s') e
  | .ex _ _, h => fun c d H' Z'' s' e r => h c d H' Z'' (s.trans s') e r
  | .no, h => h
theorem PRA.mono (s : Same Z Z') {Q : List V → Hp → Prop} : ∀ {r : RA}, PRA T W G B Z σ Q r → PRA T W G B Z' σ Q r
  | .ok _ _, h => fun v H' Z'' s' e r => h v H' Z'' (s.trans s') e r
  | .ex _ _, h => fun c d H' Z'' s' e r => h c d H' Z'' (s.trans s') e r
  | .no, h => h
theorem PRS.mono (s : Same Z Z') {K : Ends} : ∀ {r : RS}, PRS T W G B Z K r → PRS T W G B Z' K r
  | .nx _, h => fun σ' H' Z'' s' e => h σ' H' Z'' (s.trans s') e
  | .bk _, h => fun σ' H' Z'' s' e => h σ' H' Z'' (s.trans s') e
  | .ct _, h => fun σ' H' Z'' s' e => h σ' H' Z'' (s.trans s') e
  | .rt _ _, h => fun v σ' H' Z'' s' e r => h v σ' H' Z'' (s.trans s') e r
  | .ex _ _, h => fun c d σ' H' Z'' s' e r => h c d σ' H' Z'' (s.trans s') e r
  | .no, h => h
theorem AVOk.mono (s : Same Z Z') : ∀ {vs : List V} {as : List AV}, AVOk T Z σ vs as → AVOk T Z' σ vs as
  | [], [], _ => True.intro
  | _ :: _, .d _ :: _, h => ⟨h.1.mono s, AVOk.mono s h.2⟩
  | _ :: _, .s _ :: _, h => ⟨h.1, AVOk.mono s h.2⟩
  | [], .d _ :: _, h => h.elim
  | [], .s _ :: _, h => h.elim
  | _ :: _, [], h => h.elim
end

section
variable {T : Tb} {G : Gd} {Z Z' H : Hp} {B : List (Nat × Addr)} {σ : St} {env : Env'} {p : Addr} {o : HO}
theorem EOk.gnone (E : EOk T G B Z H σ env) (h : H p = none) : G.g p = none := by
  cases q : G.g p with
  | none => rfl
  | some u =>
    by_cases hb : ∃ i, (i, p) ∈ B
    · obtain ⟨i, hb⟩ := hb
      obtain ⟨⟨o, e⟩, e2⟩ := E.bor i p hb
      obtain ⟨a, h', e3, e4, _⟩ := E.own i true o e
      rw [e2] at e3
      cases e3
      rw [e4] at h; cases h
    · have := E.keep p u q fun i hi => hb ⟨i, hi⟩
      rw [this] at h; cases h
theorem EOk.znone (E : EOk T G B Z H σ env) (h : H p = none) : Z p = none := E.sub.free h
theorem EOk.nown (E : EOk T G B Z H σ env) (h : H p = none) (i : Nat) : ¬ Own σ env i p := fun ⟨⟨b, o, e⟩, e2⟩ => by
  obtain ⟨a, h', e3, e4, _⟩ := E.own i b o e
  rw [e2] at e3
  cases e3
  rw [e4] at h; cases h
theorem EOk.new (E : EOk T G B Z H σ env) (h : H p = none) : EOk T G B Z (upd H p o) σ env where
  len := E.len
  sub := fun a u q => by
    have := E.sub a u q
    rw [upd_ne (ne_of_none this h)]; exact this
  nof := E.nof
  keep := fun a u q n => by
    have := E.keep a u q n
    rw [upd_ne (ne_of_none this h)]; exact this
  val := E.val
  own := fun i b o e => by
    obtain ⟨a, h', e1, e2, r⟩ := E.own i b o e
    exact ⟨a, h', e1, by rw [upd_ne (ne_of_none e2 h)]; exact e2, r⟩
  bor := E.bor
  dis := E.dis
theorem EOk.fix (E : EOk T G B Z H σ env) (h : H p = some o) (n : ∀ i, ¬ Own σ env i p) (hz : Z p = none) (hg : G.g p = none) : EOk T G B (upd Z p o) H σ env where
  len := E.len
  sub := fun a u q => by
    by_cases e : a = p
    · subst e; rw [upd_same] at q; cases q; exact h
    · rw [upd_ne e] at q; exact E.sub a u q
  nof := fun a h1 h2 => by
    rw [upd_ne fun e => h1 (by rw [e]; exact hg)]
    exact E.nof a h1 h2
  keep := E.keep
  val := fun i d e => by
    obtain ⟨v, e1, r⟩ := E.val i d e
    exact ⟨v, e1, r.mono fun a u q => by rw [upd_ne (ne_of_none q hz)]; exact q⟩
  own := fun i b u e => by
    obtain ⟨a, h', e1, e2, r, z, g⟩ := E.own i b u e
    refine ⟨a, h', e1, e2, r.mono fun a u q => by rw [upd_ne (ne_of_none q hz)]; exact q, ?_, g⟩
    rw [upd_ne fun q => n i ⟨⟨b, u, e⟩, by rw [← q]; exact e1⟩]
    exact z
  bor := E.bor
  dis := E.dis
theorem same_upd (h : Z p = none) : Same Z (upd Z p o) := fun a u q => by rw [upd_ne (ne_of_none q h)]; exact q
theorem new_list (E : EOk T G B Z H σ env) (h : H p = none) {vs : List V} {xs : List D} (r : Reps T Z vs xs) :
    EOk T G B Z (upd H p (.lst vs)) σ env ∧ RRep T G Z (upd H p (.lst vs)) σ env (.ref p) (.o (.l xs)) :=
  ⟨E.new h, p, _, rfl, upd_same, ⟨vs, rfl, r⟩, E.znone h, E.gnone h, E.nown h⟩
theorem new_tup (E : EOk T G B Z H σ env) (h : H p = none) {vs : List V} {xs : List D} (r : Reps T Z vs xs) :
    Same Z (upd Z p (.tup vs)) ∧ EOk T G B (upd Z p (.tup vs)) (upd H p (.tup vs)) σ env ∧ Rep T (upd Z p (.tup vs)) (.ref p) (.tup xs) :=
  ⟨same_upd (E.znone h), (E.new h).fix upd_same (E.nown h) (E.znone h) (E.gnone h), .tup (SqT.of upd_same) (r.mono (same_upd (E.znone h)))⟩
end

def fz : RV → Option D
  | .d d => some d
  | .o (.l xs) => some (.lst xs)
  | .o (.s c xs) => none
def R.bind (r : R) (k : D → Env' → R) : R :=
  match r with
  | .ok (.d d) e => k d e
  | .ok (.o (.l xs)) e => k (.lst xs) e
  | .ok (.o (.s _ _)) _ => .no
  | .ex x e => .ex x e
  | .no => .no
def R.bindT (r : R) (k : D → Env' → RT) : RT :=
  match r with
  | .ok (.d d) e => k d e
  | .ok (.o (.l xs)) e => k (.lst xs) e
  | .ok (.o (.s _ _)) _ => .no
  | .ex x e => .ex x e
  | .no => .no
def R.bindA (r : R) (k : D → Env' → RA) : RA :=
  match r with
  | .ok (.d d) e => k d e
  | .ok (.o (.l xs)) e => k (.lst xs) e
  | .ok (.o (.s _ _)) _ => .no
  | .ex x e => .ex x e
  | .no => .no
def R.bindS (r : R) (k : D → Env' → RS) : RS :=
  match r with
  | .ok (.d d) e => k d e
  | .ok (.o (.l xs)) e => k (.lst xs) e
  | .ok (.o (.s _ _)) _ => .no
  | .ex x e => .ex x e
  | .no => .no
def R.bindR (r : R) (k : RV → Env' → RS) : RS :=
  match r with
  | .ok r e => k r e
  | .ex x e => .ex x e
  | .no => .no
def RT.bind (r : RT) (k : Bool → Env' → R) : R :=
  match r with
  | .ok b e => k b e
  | .ex x e => .ex x e
  | .no => .no
def RT.bindT (r : RT) (k : Bool → Env' → RT) : RT :=
  match r with
  | .ok b e => k b e
  | .ex x e => .ex x e
  | .no => .no
def RT.bindS (r : RT) (k : Bool → Env' → RS) : RS :=
  match r with
  | .ok b e => k b e
  | .ex x e => .ex x e
  | .no => .no
def RA.bind (r : RA) (k : List AV → Env' → R) : R :=
  match r with
  | .ok as e => k as e
  | .ex x e => .ex x e
  | .no => .no
section
variable {T : Tb} {W : WX} {G : Gd} {B : List (Nat × Addr)} {Z H : Hp} {σ : St} {env : Env'} {f : Env' → R} {ft : Env' → RT} {fa : Env' → RA}
theorem frozen {Z' H' : Hp} {e : Env'} {v : V} {xs : List D} (E : EOk T G B Z' H' σ e) (r : RRep T G Z' H' σ e v (.o (.l xs))) : ∃ Z2, Same Z' Z2 ∧ EOk T G B Z2 H' σ e ∧ Rep T Z2 v (.lst xs) := by
  obtain ⟨a, h, rfl, e1, ⟨vs, rfl, rs⟩, e2, e3, n⟩ := r
  refine ⟨upd Z' a (.lst vs), same_upd e2, E.fix e1 n e2 e3, .lst upd_same (rs.mono (same_upd e2))⟩
theorem use {P : VK} {Z0 : Hp} (s0 : Same Z0 Z) (E : EOk T G B Z H σ env) (hok : ∀ r e, f env = .ok r e → ∀ v H' Z', Same Z0 Z' → EOk T G B Z' H' σ e → RRep T G Z' H' σ e v r → P v H')
    (hex : ∀ x e, f env = .ex x e → ∀ cls d H' Z', Same Z0 Z' → EOk T G B Z' H' σ e → XRep T Z' H' cls d x → W cls d σ H') (hno : f env ≠ .no) : tX T W f σ H P := by
  refine ⟨G, B, Z, env, E, ?_⟩
  cases q : f env with
  | ok r e => exact fun v H' Z' s' E' r' => hok r e q v H' Z' (s0.trans s') E' r'
  | ex x e => exact fun c d H' Z' s' E' r' => hex x e q c d H' Z' (s0.trans s') E' r'
  | no => exact (hno q).elim
theorem use_d {P : VK} (E : EOk T G B Z H σ env) {γ : Type} {bnd : R → (D → Env' → γ) → γ} {PP : γ → Prop} {k : D → Env' → γ} (h : PP (bnd (f env) k))
    (h1 : ∀ d e k, PP (bnd (.ok (.d d) e) k) → PP (k d e)) (h2 : ∀ xs e k, PP (bnd (.ok (.o (.l xs)) e) k) → PP (k (.lst xs) e)) (h3 : ∀ c xs e k, ¬ PP (bnd (.ok (.o (.s c xs)) e) k))
    (h4 : ∀ x e k, PP (bnd (.ex x e) k) → ∀ cls d H' Z', Same Z Z' → EOk T G B Z' H' σ e → XRep T Z' H' cls d x → W cls d σ H') (h5 : ∀ k, ¬ PP (bnd .no k))
    (go : ∀ v H1 Z1 e d, Same Z Z1 → EOk T G B Z1 H1 σ e → Rep T Z1 v d → PP (k d e) → P v H1) : tX T W f σ H P := by
  refine use (Same.refl _) E (fun r e q v H' Z' s E' r' => ?_) (fun x e q => ?_) (fun q => ?_)
  · rw [q] at h
    cases r with
    | d d => exact go v H' Z' e d s E' r' (h1 _ _ _ h)
    | o o =>
      cases o with
      | l xs =>
        obtain ⟨Z2, s2, E2, r2⟩ := frozen E' r'
        exact go v H' Z2 e _ (s.trans s2) E2 r2 (h2 _ _ _ h)
      | s c xs => exact (h3 _ _ _ _ h).elim
  · rw [q] at h
    exact h4 _ _ _ h
  · rw [q] at h
    exact (h5 _ h).elim
theorem useR {P Q : VK} {k : D → Env' → R} (E : EOk T G B Z H σ env) (h : PR T W G B Z σ Q ((f env).bind k))
    (go : ∀ v H1 Z1 e d, Same Z Z1 → EOk T G B Z1 H1 σ e → Rep T Z1 v d → PR T W G B Z1 σ Q (k d e) → P v H1) : tX T W f σ H P :=
  use_d (bnd := R.bind) (PP := PR T W G B Z σ Q) E h (fun _ _ _ q => q) (fun _ _ _ q => q) (fun _ _ _ _ q => q) (fun _ _ _ q => q) (fun _ q => q) fun v H1 Z1 e d s E' r q => go v H1 Z1 e d s E' r (q.mono s)
theorem useT {P : VK} {Q : Bool → Hp → Prop} {k : D → Env' → RT} (E : EOk T G B Z H σ env) (h : PRT T W G B Z σ Q ((f env).bindT k))
    (go : ∀ v H1 Z1 e d, Same Z Z1 → EOk T G B Z1 H1 σ e → Rep T Z1 v d → PRT T W G B Z1 σ Q (k d e) → P v H1) : tX T W f σ H P :=
  use_d (bnd := R.bindT) (PP := PRT T W G B Z σ Q) E h (fun _ _ _ q => q) (fun _ _ _ q => q) (fun _ _ _ _ q => q) (fun _ _ _ q => q) (fun _ q => q) fun v H1 Z1 e d s E' r q => go v H1 Z1 e d s E' r (q.mono s)
theorem useA {P : VK} {Q : List V → Hp → Prop} {k : D → Env' → RA} (E : EOk T G B Z H σ env) (h : PRA T W G B Z σ Q ((f env).bindA k))
    (go : ∀ v H1 Z1 e d, Same Z Z1 → EOk T G B Z1 H1 σ e → Rep T Z1 v d → PRA T W G B Z1 σ Q (k d e) → P v H1) : tX T W f σ H P :=
  use_d (bnd := R.bindA) (PP := PRA T W G B Z σ Q) E h (fun _ _ _ q => q) (fun _ _ _ q => q) (fun _ _ _ _ q => q) (fun _ _ _ q => q) (fun _ q => q) fun v H1 Z1 e d s E' r q => go v H1 Z1 e d s E' r (q.mono s)
theorem useS {P : VK} {K : Ends} {k : D → Env' → RS} (E : EOk T G B Z H σ env) (h : PRS T W G B Z K ((f env).bindS k))
    (go : ∀ v H1 Z1 e d, Same Z Z1 → EOk T G B Z1 H1 σ e → Rep T Z1 v d → PRS T W G B Z1 K (k d e) → P v H1) : tX T W f σ H P :=
  use_d (bnd := R.bindS) (PP := PRS T W G B Z K) E h (fun _ _ _ q => q) (fun _ _ _ q => q) (fun _ _ _ _ q => q) (fun _ _ _ q c d H' Z' s E r => q c d _ H' Z' s E r) (fun _ q => q) fun v H1 Z1 e d s E' r q => go v H1 Z1 e d s E' r (q.mono s)
theorem useRV {P : VK} {K : Ends} {k : RV → Env' → RS} (E : EOk T G B Z H σ env) (h : PRS T W G B Z K ((f env).bindR k))
    (go : ∀ v H1 Z1 e r, Same Z Z1 → EOk T G B Z1 H1 σ e → RRep T G Z1 H1 σ e v r → PRS T W G B Z1 K (k r e) → P v H1) : tX T W f σ H P := by
  refine use (Same.refl _) E (fun r e q v H' Z' s E' r' => ?_) (fun x e q => ?_) (fun q => ?_)
  · rw [q] at h
    exact go v H' Z' e r s E' r' (PRS.mono s (r := k r e) h)
  · rw [q] at h
    exact fun c d H' Z' s E r => h c d _ H' Z' s E r
  · rw [q] at h
    exact h.elim
theorem useTT {P Q : Bool → Hp → Prop} {k : Bool → Env' → RT} (E : EOk T G B Z H σ env) (h : PRT T W G B Z σ Q ((ft env).bindT k))
    (go : ∀ b H1 Z1 e, Same Z Z1 → EOk T G B Z1 H1 σ e → PRT T W G B Z1 σ Q (k b e) → P b H1) : tXT T W ft σ H P := by
  refine ⟨G, B, Z, env, E, ?_⟩
  cases q : ft env with
  | ok b e =>
    rw [q] at h
    exact fun H' Z' s E' => go b H' Z' e s E' (PRT.mono s (r := k b e) h)
  | ex x e =>
    rw [q] at h
    exact h
  | no => rw [q] at h; exact h.elim
theorem useTS {P : Bool → Hp → Prop} {K : Ends} {k : Bool → Env' → RS} (E : EOk T G B Z H σ env) (h : PRS T W G B Z K ((ft env).bindS k))
    (go : ∀ b H1 Z1 e, Same Z Z1 → EOk T G B Z1 H1 σ e → PRS T W G B Z1 K (k b e) → P b H1) : tXT T W ft σ H P := by
  refine ⟨G, B, Z, env, E, ?_⟩
  cases q : ft env with
  | ok b e =>
    rw [q] at h
    exact fun H' Z' s E' => go b H' Z' e s E' (PRS.mono s (r := k b e) h)
  | ex x e =>
    rw [q] at h
    exact fun c d H' Z' s E r => h c d _ H' Z' s E r
  | no => rw [q] at h; exact h.elim
theorem useAR {P : List V → Hp → Prop} {Q : VK} {k : List AV → Env' → R} (E : EOk T G B Z H σ env) (h : PR T W G B Z σ Q ((fa env).bind k))
    (go : ∀ vs H1 Z1 e as, Same Z Z1 → EOk T G B Z1 H1 σ e → AVOk T Z1 σ vs as → PR T W G B Z1 σ Q (k as e) → P vs H1) : tXA T W fa σ H P := by
  refine ⟨G, B, Z, env, E, ?_⟩
  cases q : fa env with
  | ok as e =>
    rw [q] at h
    exact fun vs H' Z' s E' r => go vs H' Z' e as s E' r (PR.mono s (r := k as e) h)
  | ex x e =>
    rw [q] at h
    exact h
  | no => rw [q] at h; exact h.elim
end
end L2.S

set_option Elab.async false
set_option linter.all false
set_option maxRecDepth 100000
set_option maxHeartbeats 4000000
namespace L2.S
open PySem PySem.Spec PyProof.Rows

section
variable {X : Cx} {T : Tb} {W : WX} {a b c : Expr} {f g : Env' → R} {pos : Pos}
def two (p : D → D → Env' → R) (f g : Env' → R) : Env' → R := fun env => (f env).bind fun x e => (g e).bind fun y e' => p x y e'
def Two (T : Tb) (W : WX) (p : D → D → Env' → R) (σ : St) (Q : VK) (x y : V) (H : Hp) : Prop :=
  ∃ G B Z e dx dy, EOk T G B Z H σ e ∧ Rep T Z x dx ∧ Rep T Z y dy ∧ PR T W G B Z σ Q (p dx dy e)
theorem two_tX {p : D → D → Env' → R} {σ : St} {H : Hp} {Q : VK} (h : tX T W (two p f g) σ H Q) : tX T W f σ H fun x H1 => tX T W g σ H1 fun y H2 => Two T W p σ Q x y H2 := by
  obtain ⟨G, B, Z, env, E, h⟩ := h
  refine useR E h fun x H1 Z1 e dx s E1 r1 h1 => ?_
  exact useR E1 h1 fun y H2 Z2 e2 dy s2 E2 r2 h2 => ⟨G, B, Z2, e2, dx, dy, E2, r1.mono s2, r2, h2⟩

def Op2 (X : Cx) (T : Tb) (sem : Value → Value → Sem Value) (p : D → D → Option RV) : Prop :=
  ∀ (pins : List (Addr × Obj)) (s : Shared) (σ : St) (H : Hp) (x y : V) (v u : Value) (Q : VK) (G : Gd) (B : List (Nat × Addr)) (Z : Hp) (σ' : St) (env : Env') (dx dy : D) (r : RV),
    Inv X pins σ H s → RelV x v → RelV y u → EOk T G B Z H σ' env → Rep T Z x dx → Rep T Z y dy → p dx dy = some r →
    (∀ v H' Z', Same Z Z' → EOk T G B Z' H' σ' env → RRep T G Z' H' σ' env v r → Q v H') → wpAny (model X.prog X.w) X.A (sem v u) (EP X pins σ Q) X.xe s
def ofOp (p : D → D → Option RV) : D → D → Env' → R := fun x y e => match p x y with | some r => .ok r e | none => .no
def cOp (p : D → D → Option RV) (f g : Env' → R) : Env' → R := two (ofOp p) f g
theorem Two.op {sem : Value → Value → Sem Value} {p : D → D → Option RV} (ho : Op2 X T sem p) {pins : List (Addr × Obj)} {s : Shared} {σ : St} {H : Hp} {x y : V} {v u : Value} {Q : VK}
    (I : Inv X pins σ H s) (rx : RelV x v) (ry : RelV y u) (h : Two T W (ofOp p) σ Q x y H) : wpAny (model X.prog X.w) X.A (sem v u) (EP X pins σ Q) X.xe s := by
  obtain ⟨G, B, Z, e, dx, dy, E, r1, r2, h⟩ := h
  unfold ofOp at h
  cases q : p dx dy with
  | none => rw [q] at h; exact h.elim
  | some r =>
    rw [q] at h
    exact ho pins s σ H x y v u Q G B Z σ e dx dy r I rx ry E r1 r2 q h
theorem se_bin {op : Operator} {p : D → D → Option RV} (ho : Op2 X T (binaryOp op) p) (ha : SE X T W a f) (hb : SE X T W b g) : SE X T W (.BinOp a op b pos) (cOp p f g) := by
  refine ⟨fun pins s σ H Q I h => ?_⟩
  exact wpAny_BinOp (binT ha hb I (two_tX h) fun v u s2 x y H2 I2 rx ry q => q.op ho I2 rx ry)
theorem se_cmp {op : CmpOp} {p : D → D → Option RV} (ho : Op2 X T (compareOp op) p) (ha : SE X T W a f) (hb : SE X T W b g) (hm : behindInMarks op b = false) : SE X T W (.Compare a [op] [b] pos) (cOp p f g) := by
  refine ⟨fun pins s σ H Q I h => ?_⟩
  exact wpAny_Compare1 (binT ha hb I (two_tX h) fun v u s2 x y H2 I2 rx ry q => q.op ho I2 rx ry) hm
def orP (p q : D → D → Option RV) : D → D → Option RV := fun x y => match p x y with | some r => some r | none => q x y
theorem Op2.or {sem : Value → Value → Sem Value} {p q : D → D → Option RV} (h : Op2 X T sem p) (k : Op2 X T sem q) : Op2 X T sem (orP p q) := by
  intro pins s σ H x y v u Q G B Z σ' env dx dy r I rx ry E r1 r2 e c
  unfold orP at e
  cases z : p dx dy with
  | some w =>
    rw [z] at e; cases e
    exact h pins s σ H x y v u Q G B Z σ' env dx dy r I rx ry E r1 r2 z c
  | none =>
    rw [z] at e
    exact k pins s σ H x y v u Q G B Z σ' env dx dy r I rx ry E r1 r2 e c

def cK (d : D) : Env' → R := fun e => .ok (.d d) e
theorem se_k {e : Expr} {v : V} {d : D} (h : PE X e (tC v)) (r : ∀ Z, Rep T Z v d) : SE X T W e (cK d) := PE.weak h fun σ H Q ⟨G, B, Z, env, E, q⟩ => q v H Z (Same.refl _) E (r Z)
theorem se_int {i : Int} {j} : SE X T W (.Constant (.int i) j pos) (cK (.int i)) := se_k pe_int fun _ => .int i
theorem se_bl {i : Bool} {j} : SE X T W (.Constant (.bool i) j pos) (cK (.bl i)) := se_k pe_bl fun _ => .bl i
theorem se_non {j} : SE X T W (.Constant .none j pos) (cK .non) := se_k pe_non fun _ => .non
theorem se_str {x : Str} {l : List Nat} {j} (h : x = ⟨l.toArray⟩ := by rfl) : SE X T W (.Constant (.str x) j pos) (cK (.str l)) := by
  subst h
  exact se_k pe_str fun _ => .str l
def cV (i : Nat) : Env' → R := fun e =>
  match e[i]? with
  | some (.val d) => .ok (.d d) e
  | some (.own false (.l xs)) => .ok (.d (.lst xs)) (e.set i (.val (.lst xs)))
  | _ => .no
section
variable {G : Gd} {Z H : Hp} {B : List (Nat × Addr)} {σ : St} {env : Env'} {i : Nat}
theorem EOk.frz (E : EOk T G B Z H σ env) {xs : List D} (h : env[i]? = some (.own false (.l xs))) :
    ∃ a Z', σ[i]? = some (some (.ref a)) ∧ Same Z Z' ∧ EOk T G B Z' H σ (env.set i (.val (.lst xs))) ∧ Rep T Z' (.ref a) (.lst xs) := by
  obtain ⟨a, ho, e1, e2, ⟨vs, e3, r⟩, e4, e5⟩ := E.own i false _ h
  subst e3
  have hi : i < env.length := (List.getElem?_eq_some_iff.mp h).1
  have own' : ∀ j b, Own σ (env.set i (.val (.lst xs))) j b → j ≠ i ∧ Own σ env j b := fun j b ⟨⟨b1, o, q⟩, q2⟩ => by
    by_cases hj : i = j
    · subst hj
      rw [List.getElem?_set_self hi] at q
      cases q
    · rw [List.getElem?_set_ne hj] at q
      exact ⟨fun z => hj z.symm, ⟨b1, o, q⟩, q2⟩
  have s : Same Z (upd Z a (.lst vs)) := same_upd e4
  have ga : G.g a = none := by
    rcases e5 with ⟨z, _⟩ | ⟨_, z⟩
    · cases z
    · exact z
  refine ⟨a, upd Z a (.lst vs), e1, s, ⟨?_, fun b u q => ?_, fun b h1 h2 => by rw [upd_ne fun e => h1 (by rw [e]; exact ga)]; exact E.nof b h1 h2, E.keep, fun j d q => ?_, fun j b o q => ?_, fun j b q => ?_, fun j k b n o1 o2 => ?_⟩, .lst upd_same (r.mono s)⟩
  · rw [List.length_set]; exact E.len
  · by_cases e : b = a
    · subst e; rw [upd_same] at q; cases q; exact e2
    · rw [upd_ne e] at q; exact E.sub b u q
  · by_cases hj : i = j
    · subst hj
      rw [List.getElem?_set_self hi] at q
      cases q
      exact ⟨_, e1, .lst upd_same (r.mono s)⟩
    · rw [List.getElem?_set_ne hj] at q
      obtain ⟨v, q1, q2⟩ := E.val j d q
      exact ⟨v, q1, q2.mono s⟩
  · by_cases hj : i = j
    · subst hj
      rw [List.getElem?_set_self hi] at q
      cases q
    · rw [List.getElem?_set_ne hj] at q
      obtain ⟨c, h', q1, q2, q3, q4, q5⟩ := E.own j b o q
      refine ⟨c, h', q1, q2, q3.mono s, ?_, q5⟩
      rw [upd_ne fun z => E.dis i j a hj ⟨⟨_, _, h⟩, e1⟩ ⟨⟨_, _, q⟩, by rw [← z]; exact q1⟩]
      exact q4
  · obtain ⟨⟨o, q1⟩, q2⟩ := E.bor j b q
    refine ⟨⟨o, ?_⟩, q2⟩
    rw [List.getElem?_set_ne fun z => by rw [← z, h] at q1; cases q1]
    exact q1
  · exact E.dis j k b n (own' j b o1).2 (own' k b o2).2
end
theorem se_v (i : Nat) {x : Str} (hN : X.N[i]? = some x := by rfl) (hv : Vis X.env.scope x := by first | exact Or.inl rfl | exact Or.inr (Or.inl rfl) | exact Or.inr (Or.inr rfl)) (hd : (x == ("__debug__" : Str)) = false := by decide)
    (hcd : (x == ("__classdict__" : Str)) = false := by decide) : SE X T W (.Name x pos) (cV i) := by
  refine PE.weak (pe_var hN hv hd hcd) fun σ H Q ⟨G, B, Z, env, E, q⟩ => ?_
  unfold cV at q
  cases h : env[i]? with
  | none => rw [h] at q; exact q.elim
  | some w =>
    rw [h] at q
    cases w with
    | un => exact q.elim
    | val d =>
      obtain ⟨v, e1, r⟩ := E.val i d h
      exact ⟨v, e1, q v H Z (Same.refl _) E r⟩
    | own b o =>
      cases b with
      | true => exact q.elim
      | false =>
        cases o with
        | s c xs => exact q.elim
        | l xs =>
          obtain ⟨a, Z', e1, s, E', r⟩ := E.frz h
          exact ⟨_, e1, q _ H Z' s E' r⟩

def truthD : D → Option Bool
  | .non => some false
  | .bl b => some b
  | .int i => some (i != 0)
  | .str l => if l.length ≤ 16777216 then some (!l.isEmpty) else none
  | .tup xs => some (!xs.isEmpty)
  | .lst xs => some (!xs.isEmpty)
  | .ro xs => some (!xs.isEmpty)
  | _ => none
def cTr (f : Env' → R) : Env' → RT := fun env => (f env).bindT fun d e => match truthD d with | some b => .ok b e | none => .no
theorem Reps.isEmpty {Z : Hp} {vs : List V} {ds : List D} (r : Reps T Z vs ds) : vs.isEmpty = ds.isEmpty := by
  cases r <;> rfl
theorem tru_rep (hT : X.K = T.K) {G : Gd} {Z H : Hp} {B : List (Nat × Addr)} {σ : St} {env : Env'} {v : V} {d : D} {b : Bool} (E : EOk T G B Z H σ env) (r : Rep T Z v d) (e : truthD d = some b) : TruV X.K v H b := by
  cases r with
  | non => cases e; rfl
  | bl c => cases e; rfl
  | int i => cases e; rfl
  | str l =>
    have e' : (if l.length ≤ 16777216 then some (!l.isEmpty) else none) = some b := e
    split at e'
    · rename_i hl
      cases e'
      refine ⟨by rw [sizeLine_eq]; exact hl, ?_⟩
      show (!l.isEmpty) = _
      cases l <;> simp [Str.length, Int.natCast_add] <;> omega
    · cases e'
  | tup h r => cases e; exact .inr (.inl ⟨_, by rw [hT]; exact sqt_mono E.sub h, by rw [r.isEmpty]⟩)
  | lst h r => cases e; exact .inl ⟨_, SqL.of (E.sub _ _ h), by rw [r.isEmpty]⟩
  | ro h r => cases e; exact .inl ⟨_, by rw [hT]; exact E.sub.seq h, by rw [r.isEmpty]⟩
  | obj h n r => cases e
  | fn k => cases e
  | ty k => cases e
  | cls k => cases e
  | exv0 => cases e
  | exv _ _ _ => cases e
theorem st_tr (hT : X.K = T.K) (ha : SE X T W a f) (he : ∀ whole, isTrue a X.env whole = (do let v ← whole; standAt a.pos; holding [v] (truthy v)) := by intro _; rfl) : ST X T W a (cTr f) := by
  refine PT.weak (pt_truth ha he) fun σ H Q ⟨G, B, Z, env, E, q⟩ => ?_
  refine useT E q fun v H1 Z1 e d s E1 r q1 => ?_
  cases h : truthD d with
  | none => rw [h] at q1; exact q1.elim
  | some b =>
    rw [h] at q1
    exact ⟨b, tru_rep hT E1 r h, q1 H1 Z1 (Same.refl _) E1⟩
theorem st_cmp {op : CmpOp} {p : D → D → Option RV} (hT : X.K = T.K) (ho : Op2 X T (compareOp op) p) (ha : SE X T W a f) (hb : SE X T W b g) (hm : behindInMarks op b = false) : ST X T W (.Compare a [op] [b] pos) (cTr (cOp p f g)) := by
  refine ⟨fun pins s σ H Q I h => ?_⟩
  have h' : tX T W (cOp p f g) σ H fun v H1 => ∃ k, TruV X.K v H1 k ∧ Q k H1 := by
    obtain ⟨G, B, Z, env, E, q⟩ := h
    refine useT E q fun v H1 Z1 e d s E1 r q1 => ?_
    cases h : truthD d with
    | none => rw [h] at q1; exact q1.elim
    | some b =>
      rw [h] at q1
      exact ⟨b, tru_rep hT E1 r h, q1 H1 Z1 (Same.refl _) E1⟩
  refine wpAny_isTrue_Compare1 (binT ha hb I (two_tX h') fun v u s2 x y H2 I2 rx ry q => thn (q.op ho I2 rx ry) fun c s3 ⟨z, H3, I3, r3, q3⟩ => tru_ok pins s3 σ H3 z c Q I3 r3 q3) hm
def cAndT (t u : Env' → RT) : Env' → RT := fun env => (t env).bindT fun b e => if b then u e else .ok false e
def cOrT (t u : Env' → RT) : Env' → RT := fun env => (t env).bindT fun b e => if b then .ok true e else u e
def cNotT (t : Env' → RT) : Env' → RT := fun env => (t env).bindT fun b e => .ok (!b) e
variable {t u : Env' → RT} {rest : List Expr}
def SW (X : Cx) (T : Tb) (W : WX) (e : Expr) (f : Env' → RT) : Prop := PW X e (tXT T W f)
theorem SW.st (h : SW X T W a t) : ST X T W a t := PW.pt h
theorem sw_and1 (ha : ST X T W a t) : SW X T W (.BoolOp .And [a] pos) t := pw_and1 ha
theorem sw_or1 (ha : ST X T W a t) : SW X T W (.BoolOp .Or [a] pos) t := pw_or1 ha
theorem PW.weak {e : Expr} {t t' : TT} (h : PW X e t) (w : ∀ σ H Q, t' σ H Q → t σ H Q) : PW X e t' := ⟨fun wh pins s σ H Q I q => h.run wh pins s σ H Q I (w _ _ _ q)⟩
theorem sw_and (ha : ST X T W a t) (hb : SW X T W (.BoolOp .And (b :: rest) pos) u) : SW X T W (.BoolOp .And (a :: b :: rest) pos) (cAndT t u) := by
  refine PW.weak (pw_and ha hb) fun σ H Q ⟨G, B, Z, env, E, q⟩ => ?_
  refine useTT E q fun b H1 Z1 e s E1 q1 => ?_
  cases b with
  | true => exact ⟨G, B, Z1, e, E1, q1⟩
  | false => exact q1 H1 Z1 (Same.refl _) E1
theorem sw_or (ha : ST X T W a t) (hb : SW X T W (.BoolOp .Or (b :: rest) pos) u) : SW X T W (.BoolOp .Or (a :: b :: rest) pos) (cOrT t u) := by
  refine PW.weak (pw_or ha hb) fun σ H Q ⟨G, B, Z, env, E, q⟩ => ?_
  refine useTT E q fun b H1 Z1 e s E1 q1 => ?_
  cases b with
  | true => exact q1 H1 Z1 (Same.refl _) E1
  | false => exact ⟨G, B, Z1, e, E1, q1⟩
theorem st_not (ha : ST X T W a t) : ST X T W (.UnaryOp .Not a pos) (cNotT t) := by
  refine PT.weak (pt_not ha) fun σ H Q ⟨G, B, Z, env, E, q⟩ => ?_
  exact useTT E q fun b H1 Z1 e s E1 q1 => q1 H1 Z1 (Same.refl _) E1
def asB (f : Env' → R) (k : Bool → Env' → R) : Env' → R := fun env => (f env).bind fun d e => match d with | .bl b => k b e | _ => .no
def cAnd (f g : Env' → R) : Env' → R := asB f fun b e => if b then g e else .ok (.d (.bl false)) e
def cOr (f g : Env' → R) : Env' → R := asB f fun b e => if b then .ok (.d (.bl true)) e else g e
def cNot (f : Env' → R) : Env' → R := asB f fun b e => .ok (.d (.bl (!b))) e
theorem use_b {f : Env' → R} {k : Bool → Env' → R} {G : Gd} {Z H : Hp} {B : List (Nat × Addr)} {σ : St} {env : Env'} {P Q : VK} (E : EOk T G B Z H σ env) (h : PR T W G B Z σ Q (asB f k env))
    (go : ∀ b H1 Z1 e, Same Z Z1 → EOk T G B Z1 H1 σ e → PR T W G B Z1 σ Q (k b e) → P (.bl b) H1) : tX T W f σ H P := by
  refine useR E h fun v H1 Z1 e d s E1 r q1 => ?_
  cases r with
  | bl b => exact go b H1 Z1 e s E1 q1
  | _ => exact q1.elim
theorem se_one {op} (h : SE X T W a f) : SE X T W (.BoolOp op [a] pos) f := pe_one h
theorem se_and (ha : SE X T W a f) (hb : SE X T W (.BoolOp .And (b :: rest) pos) g) : SE X T W (.BoolOp .And (a :: b :: rest) pos) (cAnd f g) := by
  refine PE.weak (pe_and ha hb) fun σ H Q ⟨G, B, Z, env, E, q⟩ => ?_
  refine use_b E q fun b H1 Z1 e s E1 q1 => ⟨b, rfl, ?_⟩
  cases b with
  | true => exact ⟨G, B, Z1, e, E1, q1⟩
  | false => exact q1 _ H1 Z1 (Same.refl _) E1 (.bl false)
theorem se_or (ha : SE X T W a f) (hb : SE X T W (.BoolOp .Or (b :: rest) pos) g) : SE X T W (.BoolOp .Or (a :: b :: rest) pos) (cOr f g) := by
  refine PE.weak (pe_or ha hb) fun σ H Q ⟨G, B, Z, env, E, q⟩ => ?_
  refine use_b E q fun b H1 Z1 e s E1 q1 => ⟨b, rfl, ?_⟩
  cases b with
  | true => exact q1 _ H1 Z1 (Same.refl _) E1 (.bl true)
  | false => exact ⟨G, B, Z1, e, E1, q1⟩
theorem se_not (ha : SE X T W a f) : SE X T W (.UnaryOp .Not a pos) (cNot f) := by
  refine PE.weak (pe_not ha) fun σ H Q ⟨G, B, Z, env, E, q⟩ => ?_
  exact use_b E q fun b H1 Z1 e s E1 q1 => ⟨b, rfl, q1 _ H1 Z1 (Same.refl _) E1 (.bl _)⟩
def cIf (t : Env' → RT) (f g : Env' → R) : Env' → R := fun env => (t env).bind fun b e => if b then f e else g e
variable {es : List Expr} {fa : Env' → RA}
def cA0 : Env' → RA := fun e => .ok [] e
def cAd (f : Env' → R) (fa : Env' → RA) : Env' → RA := fun env => (f env).bindA fun d e => match fa e with | .ok as e' => .ok (.d d :: as) e' | .ex x e' => .ex x e' | .no => .no
def cAs (i : Nat) (fa : Env' → RA) : Env' → RA := fun env => match env[i]? with
  | some (.own _ _) => match fa env with | .ok as e' => .ok (.s i :: as) e' | .ex x e' => .ex x e' | .no => .no
  | _ => .no
theorem sa_0 : SA X T W [] cA0 := PA.weak pa_nil fun σ H Q ⟨G, B, Z, env, E, q⟩ => q [] H Z (Same.refl _) E True.intro
theorem sa_d (ha : SE X T W a f) (hr : SA X T W es fa) (hs : starEach (a :: es) X.env = (false, eval a X.env) :: starEach es X.env := by rfl) : SA X T W (a :: es) (cAd f fa) := by
  refine PA.weak (pa_cons ha hr hs) fun σ H Q ⟨G, B, Z, env, E, q⟩ => ?_
  refine useA E q fun v H1 Z1 e d s E1 r q1 => ⟨G, B, Z1, e, E1, ?_⟩
  cases h : fa e with
  | ok as e' =>
    rw [h] at q1
    exact fun vs H2 Z2 s2 E2 r2 => q1 (v :: vs) H2 Z2 s2 E2 ⟨r.mono s2, r2⟩
  | ex x e' => rw [h] at q1; exact q1
  | no => rw [h] at q1; exact q1
theorem sa_s (i : Nat) {x : Str} (hr : SA X T W es fa) (hN : X.N[i]? = some x := by rfl) (hv : Vis X.env.scope x := by first | exact Or.inl rfl | exact Or.inr (Or.inl rfl) | exact Or.inr (Or.inr rfl)) (hd : (x == ("__debug__" : Str)) = false := by decide)
    (hcd : (x == ("__classdict__" : Str)) = false := by decide) (hs : starEach (.Name x pos :: es) X.env = (false, eval (.Name x pos) X.env) :: starEach es X.env := by rfl) : SA X T W (.Name x pos :: es) (cAs i fa) := by
  refine PA.weak (pa_cons (pe_var hN hv hd hcd) hr hs) fun σ H Q ⟨G, B, Z, env, E, q⟩ => ?_
  unfold cAs at q
  cases h : env[i]? with
  | none => rw [h] at q; exact q.elim
  | some w =>
    rw [h] at q
    cases w with
    | un => exact q.elim
    | val d => exact q.elim
    | own b o =>
      obtain ⟨p, ho, e1, _⟩ := E.own i b o h
      refine ⟨_, e1, G, B, Z, env, E, ?_⟩
      cases h2 : fa env with
      | ok as e' =>
        rw [h2] at q
        exact fun vs H2 Z2 s2 E2 r2 => q (.ref p :: vs) H2 Z2 s2 E2 ⟨e1, r2⟩
      | ex x e' => rw [h2] at q; exact q
      | no => rw [h2] at q; exact q
def avD : List AV → Option (List D)
  | [] => some []
  | .d d :: as => (avD as).map (d :: ·)
  | .s _ :: _ => none
theorem AVOk.reps {Z : Hp} {σ : St} : ∀ {vs : List V} {as : List AV} {ds : List D}, AVOk T Z σ vs as → avD as = some ds → Reps T Z vs ds
  | [], [], _, _, e => by cases e; exact .nil
  | v :: vs, .d d :: as, ds, h, e => by
    have e' : (avD as).map (d :: ·) = some ds := e
    cases q : avD as with
    | none => rw [q] at e'; cases e'
    | some r => rw [q] at e'; cases e'; exact .cons h.1 (AVOk.reps h.2 q)
  | _ :: _, .s _ :: _, _, _, e => by cases e
  | [], .d _ :: _, _, h, _ => h.elim
  | [], .s _ :: _, _, h, _ => h.elim
  | _ :: _, [], _, h, _ => h.elim
def cTup (fa : Env' → RA) : Env' → R := fun env => (fa env).bind fun as e => match avD as with | some ds => if ds.length ≤ 16777216 then .ok (.d (.tup ds)) e else .no | none => .no
def cLst (fa : Env' → RA) : Env' → R := fun env => (fa env).bind fun as e => match avD as with | some ds => if ds.length ≤ 16777216 then .ok (.o (.l ds)) e else .no | none => .no
theorem se_tup {k} (h : SA X T W es fa) : SE X T W (.Tuple es k pos) (cTup fa) := by
  refine PE.weak (pe_tup h) fun σ H Q ⟨G, B, Z, env, E, q⟩ => ?_
  refine useAR E q fun vs H1 Z1 e as s E1 r q1 => ?_
  cases hd : avD as with
  | none => rw [hd] at q1; exact q1.elim
  | some ds =>
    rw [hd] at q1
    dsimp only at q1
    have rs := r.reps hd
    by_cases hl : ds.length ≤ 16777216
    · rw [if_pos hl] at q1
      refine ⟨by rw [rs.length, sizeLine_eq]; exact hl, fun p hp => ?_⟩
      obtain ⟨s2, E2, r2⟩ := new_tup E1 hp rs
      exact q1 _ _ _ s2 E2 r2
    · rw [if_neg hl] at q1; exact q1.elim
theorem se_lst (h : SA X T W es fa) : SE X T W (.List es pos) (cLst fa) := by
  refine PE.weak (pe_lst h) fun σ H Q ⟨G, B, Z, env, E, q⟩ => ?_
  refine useAR E q fun vs H1 Z1 e as s E1 r q1 => ?_
  cases hd : avD as with
  | none => rw [hd] at q1; exact q1.elim
  | some ds =>
    rw [hd] at q1
    dsimp only at q1
    have rs := r.reps hd
    by_cases hl : ds.length ≤ 16777216
    · rw [if_pos hl] at q1
      refine ⟨by rw [rs.length, sizeLine_eq]; exact hl, fun p hp => ?_⟩
      obtain ⟨E2, r2⟩ := new_list E1 hp rs
      exact q1 _ _ _ (Same.refl _) E2 r2
    · rw [if_neg hl] at q1; exact q1.elim
end
end L2.S

set_option Elab.async false
set_option linter.all false
set_option maxRecDepth 100000
set_option maxHeartbeats 4000000
namespace L2.S
open PySem PySem.Spec PyProof.Rows TL
section
variable {X : Cx} {T : Tb}
theorem op_flat {sem : Value → Value → Sem Value} {p : D → D → Option RV} {r : R2} (ho : OpR X sem r)
    (h : ∀ (G : Gd) (B : List (Nat × Addr)) (Z H : Hp) (σ : St) (env : Env') (x y : V) (dx dy : D) (w : RV) (Q : VK), EOk T G B Z H σ env → Rep T Z x dx → Rep T Z y dy → p dx dy = some w →
      (∀ v H' Z', Same Z Z' → EOk T G B Z' H' σ env → RRep T G Z' H' σ env v w → Q v H') → r x y H Q) : Op2 X T sem p :=
  fun pins s σ H x y v u Q G B Z σ' env dx dy w I rx ry E r1 r2 e c => ho pins s σ H x y v u Q I rx ry (h G B Z H σ' env x y dx dy w Q E r1 r2 e c)
def pI (C : Int → Int → Bool) (g : Int → Int → D) : D → D → Option RV := fun x y => match x, y with | .int i, .int j => if C i j then some (.d (g i j)) else none | _, _ => none
theorem pI_inv {C : Int → Int → Bool} {g : Int → Int → D} {x y : D} {w : RV} (h : pI C g x y = some w) : ∃ i j, x = .int i ∧ y = .int j ∧ C i j = true ∧ w = .d (g i j) := by
  unfold pI at h
  split at h
  · split at h
    · rename_i c
      exact ⟨_, _, rfl, rfl, c, (Option.some.inj h).symm⟩
    · cases h
  · cases h
theorem op_pI {sem : Value → Value → Sem Value} {C : Int → Int → Bool} {g : Int → Int → D} {gv : Int → Int → V} {Cp : Int → Int → Prop} (ho : OpR X sem (rI Cp gv)) (hC : ∀ i j, C i j = true → Cp i j) (hg : ∀ Z i j, C i j = true → Rep T Z (gv i j) (g i j)) : Op2 X T sem (pI C g) :=
  op_flat ho fun G B Z H σ env x y dx dy w Q E r1 r2 e c => by
    obtain ⟨i, j, rfl, rfl, hc, rfl⟩ := pI_inv e
    cases r1
    cases r2
    exact ⟨i, j, rfl, rfl, hC i j hc, c _ H Z (Same.refl _) E (hg Z i j hc)⟩
theorem op_pI0 {sem : Value → Value → Sem Value} {g : Int → Int → D} {gv : Int → Int → V} (ho : OpR X sem (rI0 gv)) (hg : ∀ Z i j, Rep T Z (gv i j) (g i j)) : Op2 X T sem (pI (fun _ _ => true) g) :=
  op_flat ho fun G B Z H σ env x y dx dy w Q E r1 r2 e c => by
    obtain ⟨i, j, rfl, rfl, hc, rfl⟩ := pI_inv e
    cases r1
    cases r2
    exact ⟨i, j, rfl, rfl, c _ H Z (Same.refl _) E (hg Z i j)⟩
def T2 : Int → Int → Bool := fun _ _ => true
def pAddI := pI T2 fun i j => .int (i + j)
def pSubI := pI T2 fun i j => .int (i - j)
def mulOk (i j : Int) : Bool := decide (i.natAbs.log2 + j.natAbs.log2 < 100000000)
def pMulI := pI mulOk fun i j => .int (i * j)
def divOk (_ j : Int) : Bool := decide (0 < j) && decide (j.natAbs.log2 < 9000)
def pDivI := pI divOk fun i j => .int (i / j)
def posOk (_ j : Int) : Bool := decide (0 < j)
def pModI := pI posOk fun i j => .int (i % j)
def powOk (i j : Int) : Bool := decide (0 ≤ j) && (decide (j ≤ 1000000) && decide (i.natAbs < 2 ^ 64))
def pPowI := pI powOk fun i j => .int (i ^ j.toNat)
theorem o_addI : Op2 X T (binaryOp .Add) pAddI := op_pI0 op_add fun Z i j => .int _
theorem o_subI : Op2 X T (binaryOp .Sub) pSubI := op_pI0 op_sub fun Z i j => .int _
theorem o_mulI : Op2 X T (binaryOp .Mult) pMulI := op_pI op_mulX (fun i j h => by
    have h := of_decide_eq_true h
    unfold CMulX Builtin.Int.intBits
    split <;> split <;> omega) fun Z i j _ => .int _
theorem o_modI : Op2 X T (binaryOp .Mod) pModI := op_pI op_mod (fun i j h => of_decide_eq_true h) fun Z i j _ => .int _
def pLtI := pI T2 fun i j => .bl (decide (i < j))
def pLeI := pI T2 fun i j => .bl (decide (i ≤ j))
def pGtI := pI T2 fun i j => .bl (decide (j < i))
def pGeI := pI T2 fun i j => .bl (decide (j ≤ i))
theorem o_ltI : Op2 X T (compareOp .Lt) pLtI := op_pI0 op_lt fun Z i j => .bl _
theorem o_leI : Op2 X T (compareOp .LtE) pLeI := op_pI0 op_le fun Z i j => .bl _
theorem o_gtI : Op2 X T (compareOp .Gt) pGtI := op_pI0 op_gt fun Z i j => .bl _
theorem o_geI : Op2 X T (compareOp .GtE) pGeI := op_pI0 op_ge fun Z i j => .bl _

def SZ : Nat := 16777216
theorem SZ_eq : (sizeLine : Nat) = SZ := sizeLine_eq
def pS (C : List Nat → List Nat → Bool) (g : List Nat → List Nat → D) : D → D → Option RV := fun x y => match x, y with | .str i, .str j => if C i j then some (.d (g i j)) else none | _, _ => none
theorem pS_inv {C : List Nat → List Nat → Bool} {g : List Nat → List Nat → D} {x y : D} {w : RV} (h : pS C g x y = some w) : ∃ i j, x = .str i ∧ y = .str j ∧ C i j = true ∧ w = .d (g i j) := by
  unfold pS at h
  split at h
  · split at h
    · rename_i c
      exact ⟨_, _, rfl, rfl, c, (Option.some.inj h).symm⟩
    · cases h
  · cases h
def lenOk (i j : List Nat) : Bool := decide (i.length + j.length ≤ SZ)
def pAddS := pS lenOk fun i j => .str (i ++ j)
theorem str_app (i j : List Nat) : ((⟨i.toArray⟩ : Str) ++ ⟨j.toArray⟩) = ⟨(i ++ j).toArray⟩ := ext_tl (by rw [tl_append])
theorem str_len (i : List Nat) : (⟨i.toArray⟩ : Str).length = i.length := rfl
theorem o_addS : Op2 X T (binaryOp .Add) pAddS := op_flat op_add_str fun G B Z H σ env x y dx dy w Q E r1 r2 e c => by
  obtain ⟨i, j, rfl, rfl, hc, rfl⟩ := pS_inv e
  cases r1
  cases r2
  refine ⟨_, _, rfl, rfl, by rw [str_len, str_len, SZ_eq]; exact of_decide_eq_true hc, ?_⟩
  rw [str_app]
  exact c _ H Z (Same.refl _) E (.str _)
def S2t : List Nat → List Nat → Bool := fun _ _ => true
def pLtS := pS S2t fun i j => .bl (decide (i < j))
def pGtS := pS S2t fun i j => .bl (decide (j < i))
def pLeS := pS S2t fun i j => .bl (!decide (j < i))
def pGeS := pS S2t fun i j => .bl (!decide (i < j))
theorem o_ltS : Op2 X T (compareOp .Lt) pLtS := op_flat op_lt_str fun G B Z H σ env x y dx dy w Q E r1 r2 e c => by
  obtain ⟨i, j, rfl, rfl, hc, rfl⟩ := pS_inv e
  cases r1
  cases r2
  exact ⟨_, _, rfl, rfl, c _ H Z (Same.refl _) E (.bl _)⟩
theorem o_gtS : Op2 X T (compareOp .Gt) pGtS := op_flat op_gt_str fun G B Z H σ env x y dx dy w Q E r1 r2 e c => by
  obtain ⟨i, j, rfl, rfl, hc, rfl⟩ := pS_inv e
  cases r1
  cases r2
  exact ⟨_, _, rfl, rfl, c _ H Z (Same.refl _) E (.bl _)⟩
theorem o_leS : Op2 X T (compareOp .LtE) pLeS := op_flat op_le_str fun G B Z H σ env x y dx dy w Q E r1 r2 e c => by
  obtain ⟨i, j, rfl, rfl, hc, rfl⟩ := pS_inv e
  cases r1
  cases r2
  exact ⟨_, _, rfl, rfl, c _ H Z (Same.refl _) E (.bl _)⟩
theorem o_geS : Op2 X T (compareOp .GtE) pGeS := op_flat op_ge_str fun G B Z H σ env x y dx dy w Q E r1 r2 e c => by
  obtain ⟨i, j, rfl, rfl, hc, rfl⟩ := pS_inv e
  cases r1
  cases r2
  exact ⟨_, _, rfl, rfl, c _ H Z (Same.refl _) E (.bl _)⟩
def one1 (i _ : List Nat) : Bool := i.length == 1
def pInS := pS one1 fun i j => .bl (decide (i.headD 0 ∈ j))
def pNinS := pS one1 fun i j => .bl (!decide (i.headD 0 ∈ j))
def pMulS : D → D → Option RV := fun x y => match x, y with
  | .str i, .int n => if decide (0 ≤ n) && decide (i.length * n.toNat ≤ SZ) && decide (n ≤ 16777216) then some (.d (.str (List.replicate n.toNat i).flatten)) else none
  | _, _ => none
theorem foldl_cps (a : Array Nat) : ∀ (k : Nat) (acc : Array Nat), ((List.replicate k a).foldl (· ++ ·) acc).toList = acc.toList ++ (List.replicate k a.toList).flatten
  | 0, acc => by simp
  | k + 1, acc => by
    rw [List.replicate_succ, List.foldl_cons, foldl_cps a k, List.replicate_succ, List.flatten_cons, Array.toList_append, List.append_assoc]
theorem o_mulS : Op2 X T (binaryOp .Mult) pMulS := fun pins s σ H x y v u Q G B Z σ' env dx dy w I rx ry E r1 r2 e c => by
  unfold pMulS at e
  split at e
  · rename_i i n
    split at e
    · rename_i hc
      cases e
      rw [Bool.and_eq_true, Bool.and_eq_true] at hc
      have h0 := of_decide_eq_true hc.1.1
      have h1 := of_decide_eq_true hc.1.2
      have h2 := of_decide_eq_true hc.2
      cases r1
      cases r2
      obtain ⟨t, rfl⟩ := rx
      obtain ⟨t', rfl⟩ := ry
      have hlen : (⟨i.toArray⟩ : Str).length = i.length := rfl
      have fin : ∀ (z : Str) (k : Tok) (s' : Nat), tl z = (List.replicate n.toNat i).flatten → EP X pins σ Q (.str z k) { s with toks := s' } := fun z k s' hz => by
        have ez : z = ⟨(List.replicate n.toNat i).flatten.toArray⟩ := ext_tl (by rw [hz])
        subst ez
        exact ⟨.str _, H, I.tok _, ⟨_, rfl⟩, c _ H Z (Same.refl _) E (.str _)⟩
      refine SB.mul ⟨?_, fun h3 _ => ?_, fun _ _ => ?_⟩ fun t2 k => ?_
      · have a : ¬ n < -(2 ^ 63 : Int) := by omega
        have b : ¬ n ≥ 2 ^ 63 := by omega
        rw [decide_eq_false a, decide_eq_false b]; rfl
      · rw [hlen]
        have hn : 1 ≤ n.toNat := by omega
        have hl : i.length ≤ SZ := Nat.le_trans (Nat.le_mul_of_pos_right _ hn) h1
        have hsz : SZ = 16777216 := rfl
        have : (549755813887 : Int) ≤ (2 ^ 63 - 1) / n := Int.le_ediv_of_mul_le (by omega) (by omega)
        omega
      · rw [hlen]
        unfold Builtin.Str.tooLong
        have : ¬ i.length * n.toNat > sizeLine := by rw [SZ_eq]; omega
        simp only [this, decide_false]
      · unfold Txt.mul
        by_cases h3 : n < 1
        · rw [if_pos h3]
          have : n.toNat = 0 := by omega
          refine fin _ _ _ ?_
          rw [this]
          rfl
        · rw [if_neg h3]
          refine fin _ _ _ ?_
          split
          · rename_i hq
            simp only [Bool.or_eq_true, beq_iff_eq] at hq
            rcases hq with hq | hq
            · subst hq
              simp
            · have : i = [] := List.eq_nil_of_length_eq_zero hq
              subst this
              simp
          · show Array.toList _ = _
            rw [foldl_cps]
            simp
    · cases e
  · cases e

def pAddT : D → D → Option RV := fun x y => match x, y with
  | .tup a, .tup b => if decide (a.length + b.length ≤ SZ) then some (.d (.tup (a ++ b))) else none
  | _, _ => none
theorem o_addT (hT : X.K = T.K) : Op2 X T (binaryOp .Add) pAddT := op_flat op_catA fun G B Z H σ env x y dx dy w Q E r1 r2 e c => by
  unfold pAddT at e
  split at e
  · rename_i a b
    split at e
    · rename_i hc
      cases e
      have h1 := of_decide_eq_true hc
      cases r1 with
      | tup ha ra =>
        cases r2 with
        | tup hb rb =>
          refine ⟨_, _, _, _, rfl, rfl, by rw [hT]; exact sqt_mono E.sub ha, by rw [hT]; exact sqt_mono E.sub hb, by rw [ra.length, rb.length, SZ_eq]; exact h1, fun z => ?_, fun _ z => ?_, fun _ _ p hp => ?_⟩
          · subst z
            cases ra
            exact c _ H Z (Same.refl _) E (.tup hb rb)
          · subst z
            cases rb
            refine c _ H Z (Same.refl _) E ?_
            rw [List.append_nil]
            exact .tup ha ra
          · obtain ⟨s, E', r'⟩ := new_tup E hp (ra.append rb)
            exact c _ _ _ s E' r'
    · cases e
  · cases e
def pAddL : D → D → Option RV := fun x y => match x, y with
  | .lst a, .lst b => if decide (a.length + b.length ≤ SZ) then some (.o (.l (a ++ b))) else none
  | _, _ => none
theorem o_addL : Op2 X T (binaryOp .Add) pAddL := op_flat op_cat fun G B Z H σ env x y dx dy w Q E r1 r2 e c => by
  unfold pAddL at e
  split at e
  · rename_i a b
    split at e
    · rename_i hc
      cases e
      have h1 := of_decide_eq_true hc
      cases r1 with
      | lst ha ra =>
        cases r2 with
        | lst hb rb =>
          refine ⟨_, _, _, _, rfl, rfl, E.sub _ _ ha, E.sub _ _ hb, by rw [ra.length, rb.length, SZ_eq]; exact h1, fun p hp => ?_⟩
          obtain ⟨E', r'⟩ := new_list E hp (ra.append rb)
          exact c _ _ _ (Same.refl _) E' r'
    · cases e
  · cases e
def pMulL : D → D → Option RV := fun x y => match x, y with
  | .lst a, .int k => if decide (0 ≤ k) && (decide (k ≤ 16777216) && decide (a.length * k.toNat ≤ SZ)) then some (.o (.l (List.replicate k.toNat a).flatten)) else none
  | _, _ => none
theorem Reps.rep {Z : Hp} {vs : List V} {ds : List D} (r : Reps T Z vs ds) : ∀ k, Reps T Z (List.replicate k vs).flatten (List.replicate k ds).flatten
  | 0 => .nil
  | k + 1 => by
    rw [List.replicate_succ, List.replicate_succ, List.flatten_cons, List.flatten_cons]
    exact r.append (Reps.rep r k)
theorem o_mulL : Op2 X T (binaryOp .Mult) pMulL := op_flat op_rep fun G B Z H σ env x y dx dy w Q E r1 r2 e c => by
  unfold pMulL at e
  split at e
  · rename_i a k
    split at e
    · rename_i hc
      cases e
      rw [Bool.and_eq_true, Bool.and_eq_true] at hc
      have h0 := of_decide_eq_true hc.1
      have h1 := of_decide_eq_true hc.2.1
      have h2 := of_decide_eq_true hc.2.2
      cases r1 with
      | lst ha ra =>
        cases r2
        refine ⟨_, _, _, rfl, rfl, E.sub _ _ ha, by omega, by omega, by rw [ra.length, SZ_eq]; exact h2, fun p hp => ?_⟩
        obtain ⟨E', r'⟩ := new_list E hp (ra.rep k.toNat)
        exact c _ _ _ (Same.refl _) E' r'
    · cases e
  · cases e

mutual
def eqD : D → D → Bool
  | .non, .non => true
  | .bl a, .bl b => a == b
  | .int a, .int b => a == b
  | .str a, .str b => a == b
  | .tup a, .tup b => eqDs a b
  | .lst a, .lst b => eqDs a b
  | .lst a, .ro b => eqDs a b
  | .ro a, .lst b => eqDs a b
  | .ro a, .ro b => eqDs a b
  | .obj c a, .obj k b => c == k && eqDs a b
  | _, _ => false
def eqDs : List D → List D → Bool
  | [], [] => true
  | x :: xs, y :: ys => eqD x y && eqDs xs ys
  | _, _ => false
end
mutual
def noMix : D → D → Bool
  | .bl _, .int _ => false
  | .int _, .bl _ => false
  | .tup a, .tup b => noMixs a b
  | .lst a, .lst b => noMixs a b
  | .lst a, .ro b => noMixs a b
  | .ro a, .lst b => noMixs a b
  | .ro a, .ro b => noMixs a b
  | _, _ => true
def noMixs : List D → List D → Bool
  | x :: xs, y :: ys => noMix x y && noMixs xs ys
  | _, _ => true
end
mutual
def plain : Nat → D → Bool
  | _, .non => true
  | _, .bl _ => true
  | _, .int _ => true
  | _, .str l => l.all (· < 0x110000)
  | k + 1, .tup a => plains k a
  | k + 1, .lst a => plains k a
  | k + 1, .ro a => plains k a
  | _, _ => false
def plains : Nat → List D → Bool
  | _, [] => true
  | k, x :: xs => plain k x && plains k xs
end
mutual
def pd : D → PyData
  | .non => .none
  | .bl b => .bool b
  | .int i => .int i
  | .str l => .str ⟨l.toArray⟩
  | .tup a => .tuple (pds a)
  | .lst a => .list (pds a)
  | .ro a => .list (pds a)
  | _ => .none
def pds : List D → List PyData
  | [] => []
  | x :: xs => pd x :: pds xs
end
mutual
theorem pd_lay : ∀ (k : Nat) (d : D), plain k d = true → (pd d).canLay0 = true ∧ (pd d).depth ≤ k
  | k, .non, _ => ⟨rfl, Nat.zero_le _⟩
  | k, .bl _, _ => ⟨rfl, Nat.zero_le _⟩
  | k, .int _, _ => ⟨rfl, Nat.zero_le _⟩
  | k, .str l, h => by
    unfold plain at h
    refine ⟨?_, by show 0 ≤ k; exact Nat.zero_le _⟩
    show PyData.strOk ⟨l.toArray⟩ = true
    unfold PyData.strOk
    simpa using h
  | k + 1, .tup a, h => by
    unfold plain at h
    obtain ⟨h1, h2⟩ := pds_lay k a h
    exact ⟨h1, Nat.succ_le_succ h2⟩
  | k + 1, .lst a, h => by
    unfold plain at h
    obtain ⟨h1, h2⟩ := pds_lay k a h
    exact ⟨h1, Nat.succ_le_succ h2⟩
  | k + 1, .ro a, h => by
    unfold plain at h
    obtain ⟨h1, h2⟩ := pds_lay k a h
    exact ⟨h1, Nat.succ_le_succ h2⟩
  | 0, .tup a, h => by simp [plain] at h
  | 0, .lst a, h => by simp [plain] at h
  | 0, .ro a, h => by simp [plain] at h
  | k, .obj _ _, h => by simp [plain] at h
  | k, .fn _, h => by simp [plain] at h
  | k, .ty _, h => by simp [plain] at h
  | k, .cls _, h => by simp [plain] at h
  | k, .exv _ _ _ _, h => by simp [plain] at h
theorem pds_lay : ∀ (k : Nat) (a : List D), plains k a = true → PyData.canLayAll0 (pds a) = true ∧ PyData.depthAll (pds a) ≤ k
  | k, [], _ => ⟨rfl, Nat.zero_le _⟩
  | k, x :: xs, h => by
    unfold plains at h
    rw [Bool.and_eq_true] at h
    obtain ⟨h1, h2⟩ := pd_lay k x h.1
    obtain ⟨h3, h4⟩ := pds_lay k xs h.2
    refine ⟨?_, ?_⟩
    · show (PyData.canLay0 (pd x) && PyData.canLayAll0 (pds xs)) = true
      rw [h1, h3]; rfl
    · show max (PyData.depth (pd x)) (PyData.depthAll (pds xs)) ≤ k
      omega
end
mutual
theorem Rep.dp {Z H : Hp} (s : Same Z H) : ∀ {v : V} {d : D} (k : Nat), Rep T Z v d → plain k d = true → Dp T.K H v (pd d)
  | _, _, _, .non, _ => .non
  | _, _, _, .bl b, _ => .bl b
  | _, _, _, .int i, _ => .int i
  | _, _, _, .str l, _ => .str _
  | _, _, k + 1, .tup h r, p => by unfold plain at p; exact .tup (sqt_mono s h) (Reps.dp s k r p)
  | _, _, k + 1, .lst h r, p => by unfold plain at p; exact .lst (SqL.of (s _ _ h)) (Reps.dp s k r p)
  | _, _, k + 1, .ro h r, p => by unfold plain at p; exact .lst (s.seq h) (Reps.dp s k r p)
  | _, _, 0, .tup h r, p => by simp [plain] at p
  | _, _, 0, .lst h r, p => by simp [plain] at p
  | _, _, 0, .ro h r, p => by simp [plain] at p
  | _, _, _, .obj _ _ _, p => by simp [plain] at p
  | _, _, _, .fn _, p => by simp [plain] at p
  | _, _, _, .ty _, p => by simp [plain] at p
  | _, _, _, .cls _, p => by simp [plain] at p
  | _, _, _, .exv0, p => by simp [plain] at p
  | _, _, _, .exv _ _ _, p => by simp [plain] at p
theorem Reps.dp {Z H : Hp} (s : Same Z H) : ∀ {vs : List V} {ds : List D} (k : Nat), Reps T Z vs ds → plains k ds = true → DpAll T.K H vs (pds ds)
  | _, _, _, .nil, _ => .nil
  | _, _, k, .cons h r, p => by
    unfold plains at p
    rw [Bool.and_eq_true] at p
    exact .cons (Rep.dp s k h p.1) (Reps.dp s k r p.2)
end
theorem str_beq (a b : List Nat) : ((⟨a.toArray⟩ : Str) == ⟨b.toArray⟩) = (a == b) := by
  rw [Bool.eq_iff_iff, beq_iff_eq, beq_iff_eq]
  exact ⟨fun h => by have := congrArg tl h; exact this, fun h => by rw [h]⟩
mutual
theorem eqv_eq : ∀ (k j : Nat) (d e : D), plain k d = true → plain j e = true → noMix d e = true → PyData.eqv (pd d) (pd e) = eqD d e
  | k, j, d, e, h1, h2, h3 => by
    cases d <;> cases e <;> first
      | (simp [plain] at h1; done)
      | (simp [plain] at h2; done)
      | (simp [noMix] at h3; done)
      | (simp only [pd, PyData.eqv, eqD]; done)
      | (simp only [pd, PyData.eqv, eqD]; exact str_beq _ _)
      | (cases k with
         | zero => simp [plain] at h1
         | succ k =>
           cases j with
           | zero => simp [plain] at h2
           | succ j =>
             simp only [plain] at h1 h2
             simp only [noMix] at h3
             simp only [pd, PyData.eqv, eqD]
             exact eqvs_eq k j _ _ h1 h2 h3)
theorem eqvs_eq : ∀ (k j : Nat) (d e : List D), plains k d = true → plains j e = true → noMixs d e = true → PyData.eqvAll (pds d) (pds e) = eqDs d e
  | k, j, [], [], _, _, _ => rfl
  | k, j, [], _ :: _, _, _, _ => rfl
  | k, j, _ :: _, [], _, _, _ => rfl
  | k, j, x :: xs, y :: ys, h1, h2, h3 => by
    unfold plains at h1 h2
    unfold noMixs at h3
    rw [Bool.and_eq_true] at h1 h2 h3
    show (PyData.eqv (pd x) (pd y) && PyData.eqvAll (pds xs) (pds ys)) = (eqD x y && eqDs xs ys)
    rw [eqv_eq k j x y h1.1 h2.1 h3.1, eqvs_eq k j xs ys h1.2 h2.2 h3.2]
end
def scD : D → D → Bool
  | .non, .non => true | .non, .int _ => true | .int _, .non => true | .non, .bl _ => true | .bl _, .non => true | .non, .str _ => true | .str _, .non => true
  | .int _, .int _ => true | .bl _, .bl _ => true | .str _, .str _ => true
  | .int _, .str _ => true | .str _, .int _ => true | .bl _, .str _ => true | .str _, .bl _ => true
  | _, _ => false
def pEqF (neg : Bool) : D → D → Option RV := fun x y => if scD x y then some (.d (.bl (if neg then !eqD x y else eqD x y))) else none
theorem str_inj {a b : List Nat} : (V.str ⟨a.toArray⟩ = V.str ⟨b.toArray⟩) ↔ a = b := ⟨fun h => by
  have h' : (⟨a.toArray⟩ : Str) = ⟨b.toArray⟩ := by injection h
  exact congrArg tl h', fun h => by rw [h]⟩
theorem o_eqF : Op2 X T (compareOp .Eq) (pEqF false) := op_flat op_eq fun G B Z H σ env x y dx dy w Q E r1 r2 e c => by
  unfold pEqF at e
  split at e
  · rename_i hc
    cases e
    have fin : ∀ b, (b = eqD dx dy) → Q (.bl b) H := fun b hb => c _ H Z (Same.refl _) E (by rw [hb]; exact .bl _)
    cases r1 <;> cases r2 <;> first
      | (simp [scD] at hc; done)
      | (refine ⟨rfl, fin _ ?_⟩; simp [eqD]; done)
      | (refine ⟨rfl, fin _ ?_⟩; simp only [str_inj, eqD]; exact (Bool.beq_eq_decide_eq _ _).symm)
      | (refine ⟨rfl, fin _ ?_⟩; simp only [eqD, V.int.injEq, V.bl.injEq]; exact (Bool.beq_eq_decide_eq _ _).symm)
  · cases e
theorem o_neF : Op2 X T (compareOp .NotEq) (pEqF true) := op_flat op_ne fun G B Z H σ env x y dx dy w Q E r1 r2 e c => by
  unfold pEqF at e
  split at e
  · rename_i hc
    cases e
    have fin : ∀ b, (b = !eqD dx dy) → Q (.bl b) H := fun b hb => c _ H Z (Same.refl _) E (by rw [hb]; exact .bl _)
    cases r1 <;> cases r2 <;> first
      | (simp [scD] at hc; done)
      | (refine ⟨rfl, fin _ ?_⟩; simp [eqD]; done)
      | (refine ⟨rfl, fin _ ?_⟩; simp only [str_inj, eqD]; exact congrArg not (Bool.beq_eq_decide_eq _ _).symm)
      | (refine ⟨rfl, fin _ ?_⟩; simp only [eqD, V.int.injEq, V.bl.injEq]; exact congrArg not (Bool.beq_eq_decide_eq _ _).symm)
  · cases e
def pEqP (neg : Bool) : D → D → Option RV := fun x y => if plain 60 x && (plain 60 y && noMix x y) then some (.d (.bl (if neg then !eqD x y else eqD x y))) else none
theorem o_eqP (hT : X.K = T.K) (hu : X.A.units + 64 < cLine) : Op2 X T (compareOp .Eq) (pEqP false) := op_flat (op_eqD hu) fun G B Z H σ env x y dx dy w Q E r1 r2 e c => by
  unfold pEqP at e
  split at e
  · rename_i hc
    cases e
    rw [Bool.and_eq_true, Bool.and_eq_true] at hc
    obtain ⟨h1, h2, h3⟩ := hc
    obtain ⟨a1, a2⟩ := pd_lay 60 dx h1
    obtain ⟨b1, b2⟩ := pd_lay 60 dy h2
    refine ⟨pd dx, pd dy, by rw [hT]; exact r1.dp E.sub 60 h1, by rw [hT]; exact r2.dp E.sub 60 h2, ?_, ?_, ?_⟩
    · unfold SeqAt.shaped; rw [a1, decide_eq_true (by omega)]; rfl
    · unfold SeqAt.shaped; rw [b1, decide_eq_true (by omega)]; rfl
    · rw [eqv_eq 60 60 dx dy h1 h2 h3]
      exact c _ H Z (Same.refl _) E (.bl _)
  · cases e
theorem o_neP (hT : X.K = T.K) (hu : X.A.units + 64 < cLine) : Op2 X T (compareOp .NotEq) (pEqP true) := op_flat (op_neD hu) fun G B Z H σ env x y dx dy w Q E r1 r2 e c => by
  unfold pEqP at e
  split at e
  · rename_i hc
    cases e
    rw [Bool.and_eq_true, Bool.and_eq_true] at hc
    obtain ⟨h1, h2, h3⟩ := hc
    obtain ⟨a1, a2⟩ := pd_lay 60 dx h1
    obtain ⟨b1, b2⟩ := pd_lay 60 dy h2
    refine ⟨pd dx, pd dy, by rw [hT]; exact r1.dp E.sub 60 h1, by rw [hT]; exact r2.dp E.sub 60 h2, ?_, ?_, ?_⟩
    · unfold SeqAt.shaped; rw [a1, decide_eq_true (by omega)]; rfl
    · unfold SeqAt.shaped; rw [b1, decide_eq_true (by omega)]; rfl
    · rw [eqv_eq 60 60 dx dy h1 h2 h3]
      exact c _ H Z (Same.refl _) E (.bl _)
  · cases e
def pIsN : D → D → Option RV := fun x y => match y with | .non => some (.d (.bl (match x with | .non => true | _ => false))) | _ => none
def pNotN : D → D → Option RV := fun x y => match y with | .non => some (.d (.bl (match x with | .non => false | _ => true))) | _ => none
def pAdd := orP pAddI (orP pAddS (orP pAddT pAddL))
def pMul := orP pMulI (orP pMulS pMulL)
def pEq (neg : Bool) := orP (pEqF neg) (pEqP neg)
def pLt := orP pLtI pLtS
def pLe := orP pLeI pLeS
def pGt := orP pGtI pGtS
def pGe := orP pGeI pGeS
theorem o_add (hT : X.K = T.K) : Op2 X T (binaryOp .Add) pAdd := o_addI.or (o_addS.or ((o_addT hT).or o_addL))
theorem o_mul : Op2 X T (binaryOp .Mult) pMul := o_mulI.or (o_mulS.or o_mulL)
theorem o_eq (hT : X.K = T.K) (hu : X.A.units + 64 < cLine) : Op2 X T (compareOp .Eq) (pEq false) := o_eqF.or (o_eqP hT hu)
theorem o_ne (hT : X.K = T.K) (hu : X.A.units + 64 < cLine) : Op2 X T (compareOp .NotEq) (pEq true) := o_neF.or (o_neP hT hu)
theorem o_lt : Op2 X T (compareOp .Lt) pLt := o_ltI.or o_ltS
theorem o_le : Op2 X T (compareOp .LtE) pLe := o_leI.or o_leS
theorem o_gt : Op2 X T (compareOp .Gt) pGt := o_gtI.or o_gtS
theorem o_ge : Op2 X T (compareOp .GtE) pGe := o_geI.or o_geS
end
end L2.S

set_option Elab.async false
set_option linter.all false
set_option maxRecDepth 100000
set_option maxHeartbeats 4000000
namespace L2.S
open PySem PySem.Spec PyProof.Rows
section
variable {X : Cx} {T : Tb} {W : WX} {a b c : Expr} {f g : Env' → R} {pos : Pos} {st : Stmt} {sts rest : List Stmt} {t u : Env' → RS} {tt : Env' → RT}
def sSeq (t u : Env' → RS) : Env' → RS := fun env => match t env with | .nx e => u e | r => r
def sNx : Env' → RS := fun e => .nx e
theorem sss_nil : SSs X T W [] sNx := PSs.weak pss_nil fun K σ H ⟨G, B, Z, env, E, q⟩ => q σ H Z (Same.refl _) E
theorem sss_cons (h1 : SS X T W st t) (h2 : SSs X T W rest u) : SSs X T W (st :: rest) (sSeq t u) := by
  refine PSs.weak (pss_cons h1 h2) fun K σ H ⟨G, B, Z, env, E, q⟩ => ⟨G, B, Z, env, E, ?_⟩
  unfold sSeq at q
  cases h : t env with
  | nx e =>
    rw [h] at q
    exact fun σ' H' Z' s E' => ⟨G, B, Z', e, E', PRS.mono s (r := u e) q⟩
  | bk e => rw [h] at q; exact q
  | ct e => rw [h] at q; exact q
  | rt r e => rw [h] at q; exact q
  | ex x e => rw [h] at q; exact q
  | no => rw [h] at q; exact q.elim
theorem sss_one (h1 : SS X T W st t) : SSs X T W [st] t := pss_one h1
def sBk : Env' → RS := fun e => .bk e
def sCt : Env' → RS := fun e => .ct e
def sDrop (f : Env' → R) : Env' → RS := fun env => (f env).bindR fun _ e => .nx e
theorem ss_expr (he : SE X T W a f) (hs : swapsWith a none pos.line X.env = pure false := by rfl) : SS X T W (.Expr a pos) (sDrop f) := by
  refine PS.weak (ps_expr he hs) fun K σ H ⟨G, B, Z, env, E, q⟩ => ?_
  exact useRV E q fun v H1 Z1 e r s E1 r1 q1 => q1 σ H1 Z1 (Same.refl _) E1
def sRet (f : Env' → R) : Env' → RS := fun env => (f env).bindR fun r e => .rt r e
theorem ss_ret (he : SE X T W a f) : SS X T W (.Return (some a) pos) (sRet f) := by
  refine PS.weak (ps_ret he) fun K σ H ⟨G, B, Z, env, E, q⟩ => ?_
  exact useRV E q fun v H1 Z1 e r s E1 r1 q1 => q1 v σ H1 Z1 (Same.refl _) E1 r1
def sRetN : Env' → RS := fun e => .rt (.d .non) e
def sRetO (i : Nat) : Env' → RS := fun e => match e[i]? with | some (.own false o) => .rt (.o o) (e.set i .un) | _ => .no
theorem EOk.forget {G : Gd} {Z H : Hp} {B : List (Nat × Addr)} {σ : St} {env : Env'} {i : Nat} {o : OB} (E : EOk T G B Z H σ env) (h : env[i]? = some (.own false o)) :
    ∃ a, σ[i]? = some (some (.ref a)) ∧ EOk T G B Z H σ (env.set i .un) ∧ RRep T G Z H σ (env.set i .un) (.ref a) (.o o) := by
  obtain ⟨a, ho, e1, e2, r, e4, e5⟩ := E.own i false o h
  have hi : i < env.length := (List.getElem?_eq_some_iff.mp h).1
  have own' : ∀ j b, Own σ (env.set i .un) j b → j ≠ i ∧ Own σ env j b := fun j b ⟨⟨b1, o, q⟩, q2⟩ => by
    by_cases hj : i = j
    · subst hj
      rw [List.getElem?_set_self hi] at q
      cases q
    · rw [List.getElem?_set_ne hj] at q
      exact ⟨fun z => hj z.symm, ⟨b1, o, q⟩, q2⟩
  have ga : G.g a = none := by
    rcases e5 with ⟨z, _⟩ | ⟨_, z⟩
    · cases z
    · exact z
  refine ⟨a, e1, ⟨by rw [List.length_set]; exact E.len, E.sub, E.nof, E.keep, fun j d q => ?_, fun j b o q => ?_, fun j b q => ?_, fun j k b n o1 o2 => E.dis j k b n (own' j b o1).2 (own' k b o2).2⟩, a, ho, rfl, e2, r, e4, ga, fun j oj => ?_⟩
  · by_cases hj : i = j
    · subst hj
      rw [List.getElem?_set_self hi] at q
      cases q
    · rw [List.getElem?_set_ne hj] at q
      exact E.val j d q
  · by_cases hj : i = j
    · subst hj
      rw [List.getElem?_set_self hi] at q
      cases q
    · rw [List.getElem?_set_ne hj] at q
      exact E.own j b o q
  · obtain ⟨⟨o2, q1⟩, q2⟩ := E.bor j b q
    refine ⟨⟨o2, ?_⟩, q2⟩
    rw [List.getElem?_set_ne fun z => by rw [← z, h] at q1; cases q1]
    exact q1
  · obtain ⟨n, oj'⟩ := own' j a oj
    exact E.dis j i a n oj' ⟨⟨_, _, h⟩, e1⟩
theorem ss_retO (i : Nat) {x : Str} {p : Pos} (hN : X.N[i]? = some x := by rfl) (hv : Vis X.env.scope x := by first | exact Or.inl rfl | exact Or.inr (Or.inl rfl) | exact Or.inr (Or.inr rfl)) (hd : (x == ("__debug__" : Str)) = false := by decide)
    (hcd : (x == ("__classdict__" : Str)) = false := by decide) : SS X T W (.Return (some (.Name x p)) pos) (sRetO i) := by
  refine PS.weak (ps_ret (pe_var hN hv hd hcd)) fun K σ H ⟨G, B, Z, env, E, q⟩ => ?_
  unfold sRetO at q
  split at q
  · rename_i o h
    obtain ⟨a, e1, E', r⟩ := E.forget h
    exact ⟨_, e1, q _ σ H Z (Same.refl _) E' r⟩
  · exact q.elim
def sIf (c : Env' → RT) (t u : Env' → RS) : Env' → RS := fun env => (c env).bindS fun b e => if b then t e else u e
theorem ss_if {ba bb : List Stmt} (hc : ST X T W c tt) (ha : SSs X T W ba t) (hb : SSs X T W bb u) : SS X T W (.If c ba bb pos) (sIf tt t u) := by
  refine PS.weak (ps_if hc ha hb) fun K σ H ⟨G, B, Z, env, E, q⟩ => ?_
  refine useTS E q fun b H1 Z1 e s E1 q1 => ?_
  cases b with
  | true => exact ⟨G, B, Z1, e, E1, q1⟩
  | false => exact ⟨G, B, Z1, e, E1, q1⟩

def canSet (env : Env') (i : Nat) : Bool := match env[i]? with | some (.own true _) => false | some _ => true | none => false
def ofR : RV → SV
  | .d d => .val d
  | .o o => .own false o
theorem own_set {σ : St} {env : Env'} {i : Nat} {v : V} {w : SV} (hi : i < env.length) (hl : σ.length = env.length) {j : Nat} {b : Addr} (o : Own (σ.set i (some v)) (env.set i w) j b) : (j = i ∧ v = .ref b ∧ ∃ b1 o, w = .own b1 o) ∨ (j ≠ i ∧ Own σ env j b) := by
  obtain ⟨⟨b1, o, q⟩, q2⟩ := o
  by_cases hj : i = j
  · subst hj
    rw [List.getElem?_set_self hi] at q
    rw [List.getElem?_set_self (by rw [hl]; exact hi)] at q2
    cases q
    refine .inl ⟨rfl, ?_, _, _, rfl⟩
    exact Option.some.inj (Option.some.inj q2)
  · rw [List.getElem?_set_ne hj] at q q2
    exact .inr ⟨fun z => hj z.symm, ⟨b1, o, q⟩, q2⟩
theorem EOk.store {G : Gd} {Z H : Hp} {B : List (Nat × Addr)} {σ : St} {env : Env'} {i : Nat} {v : V} {r : RV} (E : EOk T G B Z H σ env) (h : canSet env i = true) (rr : RRep T G Z H σ env v r) : EOk T G B Z H (σ.set i (some v)) (env.set i (ofR r)) := by
  unfold canSet at h
  cases hw : env[i]? with
  | none => rw [hw] at h; cases h
  | some w0 =>
  have hi : i < env.length := (List.getElem?_eq_some_iff.mp hw).1
  have hiσ : i < σ.length := by rw [E.len]; exact hi
  refine ⟨by rw [List.length_set, List.length_set]; exact E.len, E.sub, E.nof, E.keep, fun j d q => ?_, fun j b o q => ?_, fun j b q => ?_, fun j k b n o1 o2 => ?_⟩
  · by_cases hj : i = j
    · subst hj
      rw [List.getElem?_set_self hi] at q
      cases r with
      | d d' => cases q; exact ⟨v, List.getElem?_set_self hiσ, rr⟩
      | o o => cases q
    · rw [List.getElem?_set_ne hj] at q
      obtain ⟨v', q1, q2⟩ := E.val j d q
      exact ⟨v', by rw [List.getElem?_set_ne hj]; exact q1, q2⟩
  · by_cases hj : i = j
    · subst hj
      rw [List.getElem?_set_self hi] at q
      cases r with
      | d d' => cases q
      | o o' =>
        cases q
        obtain ⟨a, ho, rfl, e1, e2, e3, e4, e5⟩ := rr
        exact ⟨a, ho, List.getElem?_set_self hiσ, e1, e2, e3, .inr ⟨rfl, e4⟩⟩
    · rw [List.getElem?_set_ne hj] at q
      obtain ⟨a, ho, q1, q2⟩ := E.own j b o q
      exact ⟨a, ho, by rw [List.getElem?_set_ne hj]; exact q1, q2⟩
  · obtain ⟨⟨o, q1⟩, q2⟩ := E.bor j b q
    have hj : i ≠ j := fun z => by
      rw [← z, hw] at q1
      cases q1
      rw [hw] at h
      cases h
    exact ⟨⟨o, by rw [List.getElem?_set_ne hj]; exact q1⟩, by rw [List.getElem?_set_ne hj]; exact q2⟩
  · have key : ∀ {b : Addr}, v = .ref b → (∃ b1 o, ofR r = .own b1 o) → ∀ j, ¬ Own σ env j b := fun {b} ev ⟨b1, o, eo⟩ j => by
      cases r with
      | d d => cases eo
      | o o' =>
        obtain ⟨a, ho, ev2, e1, e2, e3, e4, e5⟩ := rr
        rw [ev] at ev2
        cases ev2
        exact e5 j
    rcases own_set hi E.len o1 with ⟨ej, ev, eo⟩ | ⟨n1, p1⟩
    · rcases own_set hi E.len o2 with ⟨ek, _, _⟩ | ⟨n2, p2⟩
      · exact n (ej.trans ek.symm)
      · exact key ev eo k p2
    · rcases own_set hi E.len o2 with ⟨ek, ev, eo⟩ | ⟨n2, p2⟩
      · exact key ev eo j p1
      · exact E.dis j k b n p1 p2
def sSetO (i : Nat) (f : Env' → R) : Env' → RS := fun env => (f env).bindR fun r e => if canSet e i then .nx (e.set i (ofR r)) else .no
def sSet (i : Nat) (f : Env' → R) : Env' → RS := fun env => (f env).bindS fun d e => if canSet e i then .nx (e.set i (.val d)) else .no
theorem set_reads {i : Nat} {te : TE} (hte : te = tX T W f) : ∀ K σ H, tXS T W (sSet i f) K σ H → tAsg te (gName i) K σ H := fun K σ H ⟨G, B, Z, env, E, q⟩ => by
  subst hte
  refine useS E q fun v H1 Z1 e d s E1 r q1 => ?_
  by_cases h : canSet e i = true
  · rw [if_pos h] at q1
    exact q1 _ H1 Z1 (Same.refl _) (E1.store (r := .d d) h r)
  · rw [if_neg h] at q1; exact q1.elim
theorem setO_reads {i : Nat} {te : TE} (hte : te = tX T W f) : ∀ K σ H, tXS T W (sSetO i f) K σ H → tAsg te (gName i) K σ H := fun K σ H ⟨G, B, Z, env, E, q⟩ => by
  subst hte
  refine useRV E q fun v H1 Z1 e r s E1 rr q1 => ?_
  by_cases h : canSet e i = true
  · rw [if_pos h] at q1
    exact q1 _ H1 Z1 (Same.refl _) (E1.store h rr)
  · rw [if_neg h] at q1; exact q1.elim
theorem ss_set {i : Nat} {x : Str} {pos' : Pos} (hN : X.N.Nodup) (he : SE X T W a f) (hi : X.N[i]? = some x := by rfl) (hx : Loc X.env.scope x := by first | exact Or.inl rfl | exact Or.inr rfl) (hs : swapsWith a (some (.Name x pos')) pos.line X.env = pure false := by rfl) (hf : X.fn x = true ∨ X.env.scope.names.lookup x = some .local := by first | exact .inl rfl | exact .inr rfl | assumption) :
    SS X T W (.Assign [.Name x pos'] a pos) (sSet i f) := PS.weak (ps_set hN hi hx he hs hf) (set_reads rfl)
theorem ss_setO {i : Nat} {x : Str} {pos' : Pos} (hN : X.N.Nodup) (he : SE X T W a f) (hi : X.N[i]? = some x := by rfl) (hx : Loc X.env.scope x := by first | exact Or.inl rfl | exact Or.inr rfl) (hs : swapsWith a (some (.Name x pos')) pos.line X.env = pure false := by rfl) (hf : X.fn x = true ∨ X.env.scope.names.lookup x = some .local := by first | exact .inl rfl | exact .inr rfl | assumption) :
    SS X T W (.Assign [.Name x pos'] a pos) (sSetO i f) := PS.weak (ps_set hN hi hx he hs hf) (setO_reads rfl)

def SG (X : Cx) (T : Tb) (tg : Expr) (js : List Nat) (h : D → Env' → Option Env') : Prop :=
  PG X tg (fun v σ H Q => ∃ G B Z env d e, EOk T G B Z H σ env ∧ Rep T Z v d ∧ h d env = some e ∧ ∀ σ', (∀ j, j ∉ js → σ'[j]? = σ[j]?) → σ'.length = σ.length → EOk T G B Z H σ' e → Q σ' H)
def gN (i : Nat) : D → Env' → Option Env' := fun d e => if canSet e i then some (e.set i (.val d)) else none
theorem PG.weak {tg : Expr} {t t' : TG} (h : PG X tg t) (w : ∀ v σ H Q, t' v σ H Q → t v σ H Q) : PG X tg t' := ⟨fun pins s σ H v u Q I r q => h.run pins s σ H v u Q I r (w _ _ _ _ q)⟩
theorem sg_n {i : Nat} {x : Str} (hN : X.N.Nodup) (hi : X.N[i]? = some x := by rfl) (hx : Loc X.env.scope x := by first | exact Or.inl rfl | exact Or.inr rfl) (hf : X.fn x = true ∨ X.env.scope.names.lookup x = some .local := by first | exact .inl rfl | exact .inr rfl | assumption) : SG X T (.Name x pos) [i] (gN i) := by
  refine PG.weak (pg_name hN hi hx hf) fun v σ H Q ⟨G, B, Z, env, d, e, E, r, h, q⟩ => ?_
  unfold gN at h
  split at h
  · rename_i hc
    cases h
    refine q _ (fun j hj => ?_) (by rw [List.length_set]) (E.store (r := .d d) hc r)
    rw [List.getElem?_set_ne fun z => hj (by rw [z]; simp)]
  · cases h
def SGs (X : Cx) (T : Tb) (tgs : List Expr) (js : List Nat) (h : List D → Env' → Option Env') : Prop :=
  PGs X tgs (fun vs σ H Q => ∃ G B Z env ds e, EOk T G B Z H σ env ∧ Reps T Z vs ds ∧ h ds env = some e ∧ ∀ σ', (∀ j, j ∉ js → σ'[j]? = σ[j]?) → σ'.length = σ.length → EOk T G B Z H σ' e → Q σ' H)
theorem PGs.weak {tg : List Expr} {t t' : TGs} (h : PGs X tg t) (w : ∀ v σ H Q, t' v σ H Q → t v σ H Q) : PGs X tg t' := ⟨fun pins s σ H v u Q I r q => h.run pins s σ H v u Q I r (w _ _ _ _ q)⟩
def g0 : List D → Env' → Option Env' := fun ds e => match ds with | [] => some e | _ => none
def gC (h : D → Env' → Option Env') (k : List D → Env' → Option Env') : List D → Env' → Option Env' := fun ds e => match ds with | d :: r => (h d e).bind (k r) | [] => none
theorem sgs_0 : SGs X T [] [] g0 := by
  refine PGs.weak pgs_nil fun vs σ H Q ⟨G, B, Z, env, ds, e, E, r, h, q⟩ => ?_
  cases r with
  | nil =>
    cases h
    exact ⟨rfl, q σ (fun _ _ => rfl) rfl E⟩
  | cons _ _ => cases h
theorem sgs_c {e : Expr} {es : List Expr} {js ks : List Nat} {h : D → Env' → Option Env'} {k : List D → Env' → Option Env'} (h1 : SG X T e js h) (h2 : SGs X T es ks k)
    (hs : (assignEach (e :: es) X.env).map (·.2) = assign e X.env :: (assignEach es X.env).map (·.2) := by rfl) : SGs X T (e :: es) (js ++ ks) (gC h k) := by
  refine PGs.weak (pgs_cons h1 h2 hs) fun vs σ H Q ⟨G, B, Z, env, ds, e, E, r, hh, q⟩ => ?_
  cases r with
  | nil => cases hh
  | @cons v d vs ds r1 rs =>
    have hh' : (h d env).bind (k ds) = some e := hh
    cases he : h d env with
    | none => rw [he] at hh'; cases hh'
    | some e1 =>
      rw [he] at hh'
      refine ⟨_, _, rfl, G, B, Z, env, d, e1, E, r1, he, fun σ1 n1 l1 E1 => ?_⟩
      refine ⟨G, B, Z, e1, ds, e, E1, rs, hh', fun σ2 n2 l2 E2 => q σ2 (fun j hj => ?_) (l2.trans l1) E2⟩
      rw [List.mem_append, not_or] at hj
      rw [n2 j hj.2, n1 j hj.1]
def gT (n : Nat) (k : List D → Env' → Option Env') : D → Env' → Option Env' := fun d e => match d with | .tup ds => if ds.length = n then k ds e else none | _ => none
theorem sg_t {es : List Expr} {k0 : Nat} {js : List Nat} {k : List D → Env' → Option Env'} {n : Nat} (hT : X.K = T.K) (hc : X.calm = true) (h : SGs X T es js k)
    (hn : (assignEach es X.env).length = n := by rfl) (hst : (assignEach es X.env).findIdx? (·.1) = none := by rfl) : SG X T (.Tuple es k0 pos) js (gT n k) := by
  refine PG.weak (pg_tup hc h hn hst) fun v σ H Q ⟨G, B, Z, env, d, e, E, r, hh, q⟩ => ?_
  cases r with
  | @tup a vs ds hq rs =>
    unfold gT at hh
    dsimp only at hh
    split at hh
    · rename_i hl
      exact ⟨a, vs, rfl, by rw [hT]; exact sqt_mono E.sub hq, by rw [rs.length]; exact hl, G, B, Z, env, ds, e, E, rs, hh, q⟩
    · cases hh
  | _ => cases hh
def sAsg (f : Env' → R) (h : D → Env' → Option Env') : Env' → RS := fun env => (f env).bindS fun d e => match h d e with | some e' => .nx e' | none => .no
inductive RI where
  | ok (ds : List D) (e : Env') | ex (x : Ex) (e : Env') | no
def PRI (T : Tb) (W : WX) (G : Gd) (B : List (Nat × Addr)) (Z : Hp) (σ : St) (Q : List D → Hp → Hp → Env' → Prop) : RI → Prop
  | .ok ds e => ∀ H' Z', Same Z Z' → EOk T G B Z' H' σ e → Q ds H' Z' e
  | .ex x e => ∀ cls d H' Z', Same Z Z' → EOk T G B Z' H' σ e → XRep T Z' H' cls d x → W cls d σ H'
  | .no => False
structure Walk (T : Tb) (Z : Hp) (J : It) (ds : List D) : Prop where
  go : ∀ (i : Nat) (d : D) (Z' H : Hp), ds[i]? = some d → Same Z Z' → Same Z' H → J.go i H ∧ ∀ x H', J.yld i H x H' → ∃ Z2, Same Z' Z2 ∧ Rep T Z2 x d ∧ ((H' = H ∧ Z2 = Z') ∨ ∃ p o, H p = none ∧ H' = upd H p o ∧ Z2 = upd Z' p o)
  stop : ∀ (Z' H : Hp), Same Z Z' → Same Z' H → J.stop ds.length H
def tXI (T : Tb) (W : WX) (f : Env' → RI) : TI := fun σ H R => ∃ G B Z env, EOk T G B Z H σ env ∧ PRI T W G B Z σ (fun ds H' Z' e => ∀ J, Walk T Z' J ds → R J H') (f env)
def SI (X : Cx) (T : Tb) (W : WX) (tg it : Expr) (f : Env' → RI) : Prop := PI X tg it (tXI T W f)
theorem PI.weak {tg it : Expr} {t t' : TI} (h : PI X tg it t) (w : ∀ σ H R, t' σ H R → t σ H R) : PI X tg it t' := ⟨fun pins s σ H R I q => h.run pins s σ H R I (w _ _ _ q)⟩
theorem EOk.yield {G : Gd} {Z H Z2 H2 : Hp} {B : List (Nat × Addr)} {σ : St} {env : Env'} (E : EOk T G B Z H σ env) (h : (H2 = H ∧ Z2 = Z) ∨ ∃ p o, H p = none ∧ H2 = upd H p o ∧ Z2 = upd Z p o) : EOk T G B Z2 H2 σ env := by
  rcases h with ⟨rfl, rfl⟩ | ⟨p, o, hp, rfl, rfl⟩
  · exact E
  · exact (E.new hp).fix upd_same (E.nown hp) (E.znone hp) (E.gnone hp)
def forL (h : D → Env' → Option Env') (t : Env' → RS) : List D → Env' → RS
  | [], e => .nx e
  | d :: ds, e => match h d e with
    | none => .no
    | some e1 => match t e1 with
      | .nx e2 => forL h t ds e2
      | .ct e2 => forL h t ds e2
      | .bk e2 => .nx e2
      | .rt r e2 => .rt r e2
      | .ex x e2 => .ex x e2
      | .no => .no
def sFor (f : Env' → RI) (h : D → Env' → Option Env') (t : Env' → RS) : Env' → RS := fun env => match f env with
  | .ok ds e => forL h t ds e
  | .ex x e => .ex x e
  | .no => .no
theorem ss_for {tg it : Expr} {body : List Stmt} {fi : Env' → RI} {js : List Nat} {h : D → Env' → Option Env'} (hp : PassesOwn (model X.prog X.w) X.A X.env X.xe) (hc : X.calm = true) (hi : SI X T W tg it fi) (hg : SG X T tg js h) (hb : SSs X T W body t)
    (hs : ∀ x, foldedSetIterable it X.env x = pure x := by intro _; rfl) : SS X T W (.For tg it body [] pos) (sFor fi h t) := by
  refine PS.weak (ps_for hp hc hi hg hb hs) fun K σ H ⟨G, B, Z, env, E, q⟩ => ⟨G, B, Z, env, E, ?_⟩
  unfold sFor at q
  cases hf : fi env with
  | no => rw [hf] at q; exact q.elim
  | ex x e => rw [hf] at q; exact fun c d H' Z' s E r => q c d _ H' Z' s E r
  | ok ds e =>
    rw [hf] at q
    intro H1 Z1 s1 E1 J w
    refine ⟨fun i m σ H => m = ds.length - i ∧ i ≤ ds.length ∧ ∃ Z2 e2, Same Z1 Z2 ∧ EOk T G B Z2 H σ e2 ∧ PRS T W G B Z2 K (forL h t (ds.drop i) e2), ⟨_, rfl, Nat.zero_le _, Z1, e, Same.refl _, E1, PRS.mono s1 q⟩, ?_⟩
    rintro i m σ2 H2 ⟨rfl, hle, Z2, e2, s2, E2, q2⟩
    by_cases hlt : i < ds.length
    · have hd : ds[i]? = some ds[i] := List.getElem?_eq_getElem hlt
      obtain ⟨go, yld⟩ := w.go i ds[i] Z2 H2 hd s2 E2.sub
      have hdrop : ds.drop i = ds[i] :: ds.drop (i + 1) := List.drop_eq_getElem_cons hlt
      rw [hdrop] at q2
      unfold forL at q2
      refine .inr ⟨go, fun σ' H' => ∃ Z3 e3, Same Z1 Z3 ∧ EOk T G B Z3 H' σ' e3 ∧ PRS T W G B Z3 K (forL h t (ds.drop (i + 1)) e3), fun σ' H' ⟨Z3, e3, s3, E3, q3⟩ => ⟨ds.length - (i + 1), by omega, rfl, hlt, Z3, e3, s3, E3, q3⟩, fun x H' y => ?_⟩
      obtain ⟨Z3, s3, r3, hy⟩ := yld x H' y
      have E3 := E2.yield hy
      cases hh : h ds[i] e2 with
      | none => rw [hh] at q2; exact q2.elim
      | some e3 =>
        rw [hh] at q2
        refine ⟨G, B, Z3, e2, ds[i], e3, E3, r3, hh, fun σ3 _ _ E4 => ⟨G, B, Z3, e3, E4, ?_⟩⟩
        dsimp only at q2
        cases ht : t e3 with
        | nx e4 => rw [ht] at q2; exact fun σ' H' Z4 s4 E5 => ⟨Z4, e4, (s2.trans s3).trans s4, E5, PRS.mono (s3.trans s4) (r := forL h t (ds.drop (i + 1)) e4) q2⟩
        | ct e4 => rw [ht] at q2; exact fun σ' H' Z4 s4 E5 => ⟨Z4, e4, (s2.trans s3).trans s4, E5, PRS.mono (s3.trans s4) (r := forL h t (ds.drop (i + 1)) e4) q2⟩
        | bk e4 => rw [ht] at q2; exact fun σ' H' Z4 s4 E5 => q2 σ' H' Z4 (s3.trans s4) E5
        | rt r e4 => rw [ht] at q2; exact fun v σ' H' Z4 s4 E5 r5 => q2 v σ' H' Z4 (s3.trans s4) E5 r5
        | ex x e4 => rw [ht] at q2; exact fun c d σ' H' Z4 s4 E5 r5 => q2 c d σ' H' Z4 (s3.trans s4) E5 r5
        | no => rw [ht] at q2; exact q2.elim
    · have e0 : i = ds.length := by omega
      subst e0
      rw [List.drop_length] at q2
      exact .inl ⟨w.stop Z2 H2 s2 E2.sub, q2 σ2 H2 Z2 (Same.refl _) E2⟩
def itemsD : D → Option (List D)
  | .tup ds => some ds
  | .lst ds => some ds
  | .ro ds => some ds
  | .str l => some (l.map fun c => .str [c])
  | _ => none
def iD (f : Env' → R) : Env' → RI := fun env => match f env with
  | .ok r e => (match r with
    | .d d => (match itemsD d with | some ds => .ok ds e | none => .no)
    | .o (.l xs) => .ok xs e
    | .o (.s _ _) => .no)
  | .ex x e => .ex x e
  | .no => .no
theorem walk_list {Z : Hp} {p : Addr} {vs : List V} {ds : List D} (hT : X.K = T.K) (h : SqL T.K Z p vs) (r : Reps T Z vs ds) : Walk T Z (Itl X.K p) ds where
  go := fun i d Z' H e s s' => by
    obtain ⟨v, e1, r1⟩ := r.get e
    have q : SqL X.K H p vs := by rw [hT]; exact (s.trans s').seq h
    refine ⟨⟨vs, v, q, e1⟩, fun x H' y => ?_⟩
    obtain ⟨rfl, y⟩ := y
    have := y vs q
    rw [e1] at this
    cases this
    exact ⟨Z', Same.refl _, r1.mono s, .inl ⟨rfl, rfl⟩⟩
  stop := fun Z' H s s' => ⟨vs, by rw [hT]; exact (s.trans s').seq h, by rw [r.length]; exact Nat.le_refl _⟩
end
end L2.S

set_option Elab.async false
set_option linter.all false
set_option maxRecDepth 100000
set_option maxHeartbeats 4000000
namespace L2.S
open PySem PySem.Spec PyProof.Rows
section
variable {X : Cx} {T : Tb} {W : WX} {a b c tg : Expr} {f g : Env' → R} {pos : Pos} {st : Stmt} {sts rest : List Stmt} {t u : Env' → RS} {tt : Env' → RT} {fa : Env' → RA}
section
variable {pins : List (Addr × Obj)} {σ : St} {H : Hp} {s : Shared} {R : It → Hp → Prop} {E : Value → Shared → Prop}
theorem it_list {p : Addr} {xs : List V} (I : Inv X pins σ H s) (h : SqL X.K H p xs) (q : R (Itl X.K p) H) : wpAny (model X.prog X.w) X.A (pyIter (.ref p)) (PIE X pins σ tg R) E s := by
  obtain ⟨its, rv, pl, hz⟩ := I.list h
  exact wpAny_pyIter_list pl.isList (pi_one (tk := s.toks) I _ (turn_list p _) ⟨_, Heap.get?_push_size _ rfl, rfl, rfl⟩ q)
theorem it_tup {p : Addr} {xs : List V} (I : Inv X pins σ H s) (h : SqT X.K H p xs) (q : R (Itt X.K p) H) : wpAny (model X.prog X.w) X.A (pyIter (.ref p)) (PIE X pins σ tg R) E s := by
  obtain ⟨its, rv, pl, hz⟩ := I.tuple h
  exact wpAny_pyIter_tuple (show s.heap.IsTuple p its.toArray from pl) (pi_one (tk := s.toks) I _ (turn_tuple p _) ⟨_, Heap.get?_push_size _ rfl, rfl, rfl⟩ q)
theorem it_str {x : Str} {t : Tok} (I : Inv X pins σ H s) (q : R (Its x) H) : wpAny (model X.prog X.w) X.A (pyIter (.str x t)) (PIE X pins σ tg R) E s := by
  cases ha : x.cps.all (· < 128)
  · exact wpAny_pyIter_wide ha (pi_one (tk := s.toks) I _ (turn_str _ x t "str_iterator" (.inr rfl)) ⟨_, Heap.get?_push_size _ rfl, rfl, rfl⟩ q)
  · exact wpAny_pyIter_ascii ha (pi_one (tk := s.toks) I _ (turn_str _ x t "str_ascii_iterator" (.inl rfl)) ⟨_, Heap.get?_push_size _ rfl, rfl, rfl⟩ q)
end
theorem walk_tup {Z : Hp} {p : Addr} {vs : List V} {ds : List D} (hT : X.K = T.K) (h : SqT T.K Z p vs) (r : Reps T Z vs ds) : Walk T Z (Itt X.K p) ds where
  go := fun i d Z' H e s s' => by
    obtain ⟨v, e1, r1⟩ := r.get e
    have q : SqT X.K H p vs := by rw [hT]; exact sqt_mono (s.trans s') h
    refine ⟨⟨vs, v, q, e1⟩, fun x H' y => ?_⟩
    obtain ⟨rfl, y⟩ := y
    have := y vs q
    rw [e1] at this
    cases this
    exact ⟨Z', Same.refl _, r1.mono s, .inl ⟨rfl, rfl⟩⟩
  stop := fun Z' H s s' => ⟨vs, by rw [hT]; exact sqt_mono (s.trans s') h, by rw [r.length]; exact Nat.le_refl _⟩
theorem walk_str {Z : Hp} {l : List Nat} : Walk T Z (Its ⟨l.toArray⟩) (l.map fun c => .str [c]) where
  go := fun i d Z' H e s s' => by
    rw [List.getElem?_map] at e
    cases q : l[i]? with
    | none => rw [q] at e; cases e
    | some ch =>
      rw [q] at e
      cases e
      have hi : i < l.length := (List.getElem?_eq_some_iff.mp q).1
      refine ⟨by show i < (⟨l.toArray⟩ : Str).cps.size; simpa using hi, fun x H' y => ?_⟩
      obtain ⟨rfl, k, hk, rfl⟩ := y
      have hk' : l[i]? = some k := by simpa using hk
      rw [q] at hk'
      cases hk'
      exact ⟨Z', Same.refl _, .str [ch], .inl ⟨rfl, rfl⟩⟩
  stop := fun Z' H s s' => by show (⟨l.toArray⟩ : Str).cps.size ≤ _; simp
theorem si_d (hT : X.K = T.K) (ha : SE X T W a f) : SI X T W tg a (iD f) := by
  refine ⟨fun pins s σ H Rr I h => ?_⟩
  obtain ⟨G, B, Z, env, E, q⟩ := h
  have key : tX T W f σ H fun v H1 => ∃ d Z1 ds, itemsD d = some ds ∧ Same Z1 H1 ∧ Rep T Z1 v d ∧ ∀ J, Walk T Z1 J ds → Rr J H1 := by
    refine use (Same.refl _) E (fun r e hf v H' Z' s1 E' r' => ?_) (fun x e hf => ?_) (fun hf => ?_)
    · unfold iD at q
      rw [hf] at q
      cases r with
      | d d =>
        dsimp only at q
        cases hi : itemsD d with
        | none => rw [hi] at q; exact q.elim
        | some ds =>
          rw [hi] at q
          exact ⟨d, Z', ds, hi, E'.sub, r', q H' Z' s1 E'⟩
      | o o =>
        cases o with
        | s c xs => exact q.elim
        | l xs =>
          obtain ⟨Z2, s2, E2, r2⟩ := frozen E' r'
          exact ⟨.lst xs, Z2, xs, rfl, E2.sub, r2, q H' Z2 (s1.trans s2) E2⟩
    · unfold iD at q
      rw [hf] at q
      exact q
    · unfold iD at q
      rw [hf] at q
      exact q.elim
  refine thn (ha.run pins s σ H _ I key) fun v s1 ⟨x, H1, I1, r1, d, Z1, ds, hd, hs, rr, k⟩ => ?_
  cases rr with
  | tup h r =>
    cases hd
    cases r1
    exact it_tup I1 (by rw [hT]; exact sqt_mono hs h) (k _ (walk_tup hT h r))
  | lst h r =>
    cases hd
    cases r1
    exact it_list I1 (SqL.of (hs _ _ h)) (k _ (walk_list hT (SqL.of h) r))
  | ro h r =>
    cases hd
    cases r1
    exact it_list I1 (by rw [hT]; exact hs.seq h) (k _ (walk_list hT h r))
  | str l =>
    cases hd
    obtain ⟨t, rfl⟩ := r1
    exact it_str I1 (k _ walk_str)
  | _ => cases hd
def rngD (lo hi : Int) : List D := (List.range (hi - lo).toNat).map fun (i : Nat) => .int (lo + i)
theorem walk_rng {Z : Hp} {lo : Int} {n : Nat} : Walk T Z (Itr lo n) ((List.range n).map fun (i : Nat) => .int (lo + i)) where
  go := fun i d Z' H e s s' => by
    rw [List.getElem?_map] at e
    cases q : (List.range n)[i]? with
    | none => rw [q] at e; cases e
    | some j =>
      rw [q] at e
      cases e
      obtain ⟨hi, ej⟩ := List.getElem?_eq_some_iff.mp q
      rw [List.length_range] at hi
      rw [List.getElem_range] at ej
      subst ej
      refine ⟨hi, fun x H' y => ?_⟩
      obtain ⟨rfl, rfl⟩ := y
      exact ⟨Z', Same.refl _, .int _, .inl ⟨rfl, rfl⟩⟩
  stop := fun Z' H s s' => by show n ≤ _; simp
@[irreducible] def smI (i : Int) : Bool := decide (-(2 ^ 62) ≤ i) && decide (i < 2 ^ 62)
theorem smI_inv {i : Int} (h : smI i = true) : -(2 ^ 62) ≤ i ∧ i < 2 ^ 62 := by
  unfold smI at h
  rw [Bool.and_eq_true] at h
  exact ⟨of_decide_eq_true h.1, of_decide_eq_true h.2⟩
def RA.bindI (r : RA) (k : List AV → Env' → RI) : RI :=
  match r with
  | .ok as e => k as e
  | .ex x e => .ex x e
  | .no => .no
theorem useAI {G : Gd} {Z H : Hp} {B : List (Nat × Addr)} {σ : St} {env : Env'} {P : List V → Hp → Prop} {Q : List D → Hp → Hp → Env' → Prop} {k : List AV → Env' → RI} (E : EOk T G B Z H σ env) (h : PRI T W G B Z σ Q ((fa env).bindI k))
    (go : ∀ vs H1 Z1 e as, Same Z Z1 → EOk T G B Z1 H1 σ e → AVOk T Z1 σ vs as → (∀ ds e', k as e = .ok ds e' → ∀ H' Z', Same Z1 Z' → EOk T G B Z' H' σ e' → Q ds H' Z' e') → k as e ≠ .no → (∀ x e', k as e = .ex x e' → ∀ cls d H' Z', Same Z1 Z' → EOk T G B Z' H' σ e' → XRep T Z' H' cls d x → W cls d σ H') → P vs H1) : tXA T W fa σ H P := by
  refine ⟨G, B, Z, env, E, ?_⟩
  cases q : fa env with
  | ok as e =>
    rw [q] at h
    intro vs H' Z' s E' r
    refine go vs H' Z' e as s E' r (fun ds e' hk H2 Z2 s2 E2 => ?_) (fun hk => ?_) (fun x e' hk c d H2 Z2 s2 E2 r2 => ?_)
    · have h' : PRI T W G B Z σ Q (k as e) := h
      rw [hk] at h'
      exact h' H2 Z2 (s.trans s2) E2
    · have h' : PRI T W G B Z σ Q (k as e) := h
      rw [hk] at h'
      exact h'
    · have h' : PRI T W G B Z σ Q (k as e) := h
      rw [hk] at h'
      exact h' c d H2 Z2 (s.trans s2) E2 r2
  | ex x e => rw [q] at h; exact h
  | no => rw [q] at h; exact h.elim
def avI : List AV → Option (List Int)
  | [] => some []
  | .d (.int i) :: as => (avI as).map (i :: ·)
  | _ :: _ => none
theorem AVOk.ints {Z : Hp} {σ : St} : ∀ {vs : List V} {as : List AV} {is : List Int}, AVOk T Z σ vs as → avI as = some is → vs = is.map V.int
  | [], [], _, _, e => by cases e; rfl
  | v :: vs, .d (.int i) :: as, is, h, e => by
    have e' : (avI as).map (i :: ·) = some is := e
    cases q : avI as with
    | none => rw [q] at e'; cases e'
    | some r =>
      rw [q] at e'
      cases e'
      obtain ⟨h1, h2⟩ := h
      cases h1
      rw [AVOk.ints h2 q]
      rfl
  | _ :: _, .d .non :: _, _, _, e => by cases e
  | _ :: _, .d (.bl _) :: _, _, _, e => by cases e
  | _ :: _, .d (.str _) :: _, _, _, e => by cases e
  | _ :: _, .d (.tup _) :: _, _, _, e => by cases e
  | _ :: _, .d (.lst _) :: _, _, _, e => by cases e
  | _ :: _, .d (.ro _) :: _, _, _, e => by cases e
  | _ :: _, .d (.obj _ _) :: _, _, _, e => by cases e
  | _ :: _, .d (.fn _) :: _, _, _, e => by cases e
  | _ :: _, .d (.ty _) :: _, _, _, e => by cases e
  | _ :: _, .d (.cls _) :: _, _, _, e => by cases e
  | _ :: _, .s _ :: _, _, _, e => by cases e
  | [], .d _ :: _, _, h, _ => h.elim
  | [], .s _ :: _, _, h, _ => h.elim
  | _ :: _, [], _, h, _ => h.elim
def iR1 (fa : Env' → RA) : Env' → RI := fun env => (fa env).bindI fun as e => match avI as with
  | some [j] => if smI j then .ok (rngD 0 j) e else .no
  | _ => .no
def iR2 (fa : Env' → RA) : Env' → RI := fun env => (fa env).bindI fun as e => match avI as with
  | some [i, j] => if smI i && smI j then .ok (rngD i j) e else .no
  | _ => .no
def dwnD (lo hi : Int) : List D := (List.range (lo - hi).toNat).map fun (i : Nat) => .int (lo - i)
def iR3 (fa : Env' → RA) : Env' → RI := fun env => (fa env).bindI fun as e => match avI as with
  | some [i, j, -1] => if smI i && smI j then .ok (dwnD i j) e else .no
  | _ => .no
theorem si_r1 {p : Pos} (hg : Gl X "range") (hm : X.mg "range" = none) (ha : SA X T W [a] fa) (hs : starEach [a] X.env = [(false, eval a X.env)] := by rfl) : SI X T W tg (.Call (.Name "range" p) [a] [] pos) (iR1 fa) := by
  refine PI.weak (pi_range1 hg hm ha hs) fun σ H Rr ⟨G, B, Z, env, E, q⟩ => ?_
  refine useAI E q fun vs H1 Z1 e as s E1 r h1 h2 h3 => ?_
  split at h2
  · rename_i j hj
    have hv := r.ints hj
    by_cases hs : smI j = true
    · rw [hj] at h1
      simp only [hs, if_true] at h1
      obtain ⟨l1, l2⟩ := smI_inv hs
      refine ⟨j, hv, l1, l2, h1 _ _ rfl H1 Z1 (Same.refl _) E1 _ ?_⟩
      unfold rngD
      rw [Int.sub_zero]
      exact walk_rng
    · exact (h2 (if_neg hs)).elim
  · exact (h2 rfl).elim
theorem si_r2 {p : Pos} (hg : Gl X "range") (hm : X.mg "range" = none) (ha : SA X T W [a, b] fa) (hs : starEach [a, b] X.env = [(false, eval a X.env), (false, eval b X.env)] := by rfl) (hs2 : starEach [b] X.env = [(false, eval b X.env)] := by rfl) :
    SI X T W tg (.Call (.Name "range" p) [a, b] [] pos) (iR2 fa) := by
  refine PI.weak (pi_range2 hg hm ha hs hs2) fun σ H Rr ⟨G, B, Z, env, E, q⟩ => ?_
  refine useAI E q fun vs H1 Z1 e as s E1 r h1 h2 h3 => ?_
  split at h2
  · rename_i i j hj
    have hv := r.ints hj
    by_cases hs : (smI i && smI j) = true
    · rw [hj] at h1
      simp only [hs, if_true] at h1
      rw [Bool.and_eq_true] at hs
      obtain ⟨l1, l2⟩ := smI_inv hs.1
      obtain ⟨l3, l4⟩ := smI_inv hs.2
      exact ⟨i, j, hv, ⟨l1, l2, l3, l4⟩, h1 _ _ rfl H1 Z1 (Same.refl _) E1 _ walk_rng⟩
    · exact (h2 (if_neg hs)).elim
  · exact (h2 rfl).elim
def whL (c : Env' → RT) (t : Env' → RS) : Nat → Env' → RS
  | 0, _ => .no
  | n + 1, e => match c e with
    | .ok true e1 => (match t e1 with
      | .nx e2 => whL c t n e2
      | .ct e2 => whL c t n e2
      | .bk e2 => .nx e2
      | .rt r e2 => .rt r e2
      | .ex x e2 => .ex x e2
      | .no => .no)
    | .ok false e1 => .nx e1
    | .ex x e1 => .ex x e1
    | .no => .no
def sWh (n : Env' → Nat) (c : Env' → RT) (t : Env' → RS) : Env' → RS := fun e => whL c t (n e) e
theorem ss_while {body : List Stmt} (n : Env' → Nat) (hp : PassesOwn (model X.prog X.w) X.A X.env X.xe) (hc : ST X T W c tt) (hb : SSs X T W body t) : SS X T W (.While c body [] pos) (sWh n tt t) := by
  refine PS.weak (ps_while hp hc hb) fun K σ H ⟨G, B, Z, env, E, q⟩ => ?_
  refine ⟨fun m σ H => ∃ Z2 e2, Same Z Z2 ∧ EOk T G B Z2 H σ e2 ∧ PRS T W G B Z2 K (whL tt t m e2), ⟨n env, Z, env, Same.refl _, E, q⟩, ?_⟩
  rintro m σ2 H2 ⟨Z2, e2, s2, E2, q2⟩
  cases m with
  | zero => exact q2.elim
  | succ m =>
    unfold whL at q2
    refine ⟨G, B, Z2, e2, E2, ?_⟩
    cases hc : tt e2 with
    | no => rw [hc] at q2; exact q2.elim
    | ex x e => rw [hc] at q2; exact fun c d H' Z' s E r => q2 c d _ H' Z' s E r
    | ok b e =>
      rw [hc] at q2
      cases b with
      | false =>
        intro H' Z' s E'
        show if false = true then _ else _
        rw [if_neg Bool.false_ne_true]
        exact q2 σ2 H' Z' s E'
      | true =>
        dsimp only at q2
        intro H3 Z3 s3 E3
        show if true = true then _ else _
        rw [if_pos rfl]
        refine ⟨fun σ' H' => ∃ Z4 e4, Same Z Z4 ∧ EOk T G B Z4 H' σ' e4 ∧ PRS T W G B Z4 K (whL tt t m e4), fun σ' H' ⟨Z4, e4, s4, E4, q4⟩ => ⟨m, Nat.lt_succ_self m, Z4, e4, s4, E4, q4⟩, G, B, Z3, e, E3, ?_⟩
        cases ht : t e with
        | nx e4 => rw [ht] at q2; exact fun σ' H' Z4 s4 E5 => ⟨Z4, e4, (s2.trans s3).trans s4, E5, PRS.mono (s3.trans s4) (r := whL tt t m e4) q2⟩
        | ct e4 => rw [ht] at q2; exact fun σ' H' Z4 s4 E5 => ⟨Z4, e4, (s2.trans s3).trans s4, E5, PRS.mono (s3.trans s4) (r := whL tt t m e4) q2⟩
        | bk e4 => rw [ht] at q2; exact fun σ' H' Z4 s4 E5 => q2 σ' H' Z4 (s3.trans s4) E5
        | rt r e4 => rw [ht] at q2; exact fun v σ' H' Z4 s4 E5 r5 => q2 v σ' H' Z4 (s3.trans s4) E5 r5
        | ex x e4 => rw [ht] at q2; exact fun c d σ' H' Z4 s4 E5 r5 => q2 c d σ' H' Z4 (s3.trans s4) E5 r5
        | no => rw [ht] at q2; exact q2.elim
end
end L2.S

set_option Elab.async false
set_option linter.all false
set_option maxRecDepth 100000
set_option maxHeartbeats 4000000
namespace L2.S
open PySem PySem.Spec PyProof.Rows
def isOwn : SV → Bool | .own _ _ => true | _ => false
def canWipe (e : Env') (vs : List Nat) : Bool := vs.all fun v => match e[v]? with | some w => !isOwn w | none => false
def wipeE (e : Env') : List Nat → Env'
  | [] => e
  | v :: vs => (wipeE e vs).set v .un
def backE (e0 e : Env') : List Nat → Env'
  | [] => e
  | v :: vs => (backE e0 e vs).set v (e0.getD v .un)
theorem wipeE_length (e : Env') : ∀ vs, (wipeE e vs).length = e.length
  | [] => rfl
  | v :: vs => by unfold wipeE; rw [List.length_set, wipeE_length e vs]
theorem backE_length (e0 e : Env') : ∀ vs, (backE e0 e vs).length = e.length
  | [] => rfl
  | v :: vs => by unfold backE; rw [List.length_set, backE_length e0 e vs]
theorem wipeE_out {e : Env'} {j : Nat} : ∀ {vs}, j ∉ vs → (wipeE e vs)[j]? = e[j]?
  | [], _ => rfl
  | v :: vs, h => by
    rw [List.mem_cons, not_or] at h
    unfold wipeE
    rw [List.getElem?_set_ne (fun z => h.1 z.symm), wipeE_out h.2]
theorem wipeE_in {e : Env'} {j : Nat} (hj : j < e.length) : ∀ {vs}, j ∈ vs → (wipeE e vs)[j]? = some .un
  | v :: vs, h => by
    unfold wipeE
    by_cases z : v = j
    · subst z
      rw [List.getElem?_set_self (by rw [wipeE_length]; exact hj)]
    · rw [List.getElem?_set_ne z]
      exact wipeE_in hj ((List.mem_cons.mp h).resolve_left fun q => z q.symm)
theorem wipe_none {σ : St} {j : Nat} (hj : j < σ.length) : ∀ {vs}, j ∈ vs → (wipe σ vs)[j]? = some none
  | v :: vs, h => by
    unfold wipe
    by_cases z : v = j
    · subst z
      rw [List.getElem?_set_self (by rw [wipe_length]; exact hj)]
    · rw [List.getElem?_set_ne z]
      exact wipe_none hj ((List.mem_cons.mp h).resolve_left fun q => z q.symm)
theorem wipe_out' {σ : St} {j : Nat} : ∀ {vs : List Nat}, j ∉ vs → (wipe σ vs)[j]? = σ[j]?
  | [], _ => rfl
  | v :: vs, h => by
    rw [List.mem_cons, not_or] at h
    unfold wipe
    rw [List.getElem?_set_ne (fun z => h.1 z.symm), wipe_out' h.2]
theorem backE_out {e0 e : Env'} {j : Nat} : ∀ {vs}, j ∉ vs → (backE e0 e vs)[j]? = e[j]?
  | [], _ => rfl
  | v :: vs, h => by
    rw [List.mem_cons, not_or] at h
    unfold backE
    rw [List.getElem?_set_ne (fun z => h.1 z.symm), backE_out h.2]
theorem backE_in {e0 e : Env'} {j : Nat} (hj : j < e.length) : ∀ {vs}, j ∈ vs → (backE e0 e vs)[j]? = some (e0.getD j .un)
  | v :: vs, h => by
    unfold backE
    by_cases z : v = j
    · subst z
      rw [List.getElem?_set_self (by rw [backE_length]; exact hj)]
    · rw [List.getElem?_set_ne z]
      exact backE_in hj ((List.mem_cons.mp h).resolve_left fun q => z q.symm)
theorem wipe_same {σ τ : St} {vs : List Nat} (hl : σ.length = τ.length) (h : ∀ j, j ∉ vs → σ[j]? = τ[j]?) : wipe σ vs = wipe τ vs := by
  refine List.ext_getElem? fun j => ?_
  by_cases hj : j ∈ vs
  · by_cases hb : j < σ.length
    · rw [wipe_none hb hj, wipe_none (by rw [← hl]; exact hb) hj]
    · rw [List.getElem?_eq_none (by rw [wipe_length]; omega), List.getElem?_eq_none (by rw [wipe_length]; omega)]
  · rw [wipe_out' hj, wipe_out' hj, h j hj]
theorem wipe_wipe (σ : St) (vs : List Nat) : wipe (wipe σ vs) vs = wipe σ vs := wipe_same (by rw [wipe_length]) fun j hj => wipe_out' hj
theorem canWipe_at {e : Env'} {vs : List Nat} (h : canWipe e vs = true) {v : Nat} (hv : v ∈ vs) : v < e.length ∧ ∀ b o, e[v]? ≠ some (.own b o) := by
  have q := List.all_eq_true.mp h v hv
  cases hw : e[v]? with
  | none => rw [hw] at q; cases q
  | some w =>
    rw [hw] at q
    refine ⟨(List.getElem?_eq_some_iff.mp hw).1, fun b o z => ?_⟩
    cases z
    cases q
section
variable {T : Tb} {G : Gd} {Z Z' H H' : Hp} {B : List (Nat × Addr)} {σ : St} {e e0 : Env'} {vs : List Nat}
theorem own_wipe (hl : σ.length = e.length) {j : Nat} {a : Addr} (o : Own (wipe σ vs) (wipeE e vs) j a) : j ∉ vs ∧ Own σ e j a := by
  obtain ⟨⟨b, o, q⟩, q2⟩ := o
  by_cases hj : j ∈ vs
  · by_cases hb : j < e.length
    · rw [wipeE_in hb hj] at q; cases q
    · rw [List.getElem?_eq_none (by rw [wipeE_length]; omega)] at q; cases q
  · rw [wipeE_out hj] at q
    rw [wipe_out' hj] at q2
    exact ⟨hj, ⟨b, o, q⟩, q2⟩
theorem EOk.wipe (E : EOk T G B Z H σ e) (h : canWipe e vs = true) : EOk T G B Z H (wipe σ vs) (wipeE e vs) := by
  refine ⟨by rw [wipe_length, wipeE_length]; exact E.len, E.sub, E.nof, E.keep, fun j d q => ?_, fun j b o q => ?_, fun j b q => ?_, fun j k b n o1 o2 => E.dis j k b n (own_wipe E.len o1).2 (own_wipe E.len o2).2⟩
  · by_cases hj : j ∈ vs
    · rw [wipeE_in (canWipe_at h hj).1 hj] at q; cases q
    · rw [wipeE_out hj] at q
      rw [wipe_out' hj]
      exact E.val j d q
  · by_cases hj : j ∈ vs
    · rw [wipeE_in (canWipe_at h hj).1 hj] at q; cases q
    · rw [wipeE_out hj] at q
      rw [wipe_out' hj]
      exact E.own j b o q
  · obtain ⟨⟨o, q1⟩, q2⟩ := E.bor j b q
    have hj : j ∉ vs := fun hj => (canWipe_at h hj).2 _ _ q1
    exact ⟨⟨o, by rw [wipeE_out hj]; exact q1⟩, by rw [wipe_out' hj]; exact q2⟩
theorem EOk.back (E0 : EOk T G B Z H σ e0) (hw : canWipe e0 vs = true) (E : EOk T G B Z' H' (L2.wipe σ vs) e) (s : Same Z Z') : EOk T G B Z' H' σ (backE e0 e vs) := by
  have hle : e.length = e0.length := by rw [← E.len, wipe_length, E0.len]
  have at0 : ∀ j, j ∈ vs → e0[j]? = some (e0.getD j .un) := fun j hj => by
    have hb := (canWipe_at hw hj).1
    rw [List.getD_eq_getElem?_getD, List.getElem?_eq_getElem hb]
    rfl
  have own' : ∀ j a, Own σ (backE e0 e vs) j a → j ∉ vs ∧ Own (L2.wipe σ vs) e j a := fun j a ⟨⟨b, o, q⟩, q2⟩ => by
    by_cases hj : j ∈ vs
    · rw [backE_in (by rw [hle]; exact (canWipe_at hw hj).1) hj, ← at0 j hj] at q
      exact ((canWipe_at hw hj).2 _ _ q).elim
    · rw [backE_out hj] at q
      exact ⟨hj, ⟨b, o, q⟩, by rw [wipe_out' hj]; exact q2⟩
  refine ⟨by rw [backE_length, hle]; exact E0.len, E.sub, E.nof, E.keep, fun j d q => ?_, fun j b o q => ?_, fun j b q => ?_, fun j k b n o1 o2 => E.dis j k b n (own' j b o1).2 (own' k b o2).2⟩
  · by_cases hj : j ∈ vs
    · rw [backE_in (by rw [hle]; exact (canWipe_at hw hj).1) hj, ← at0 j hj] at q
      obtain ⟨v, q1, q2⟩ := E0.val j d q
      exact ⟨v, q1, q2.mono s⟩
    · rw [backE_out hj] at q
      have := E.val j d q
      rw [wipe_out' hj] at this
      exact this
  · by_cases hj : j ∈ vs
    · rw [backE_in (by rw [hle]; exact (canWipe_at hw hj).1) hj, ← at0 j hj] at q
      exact ((canWipe_at hw hj).2 _ _ q).elim
    · rw [backE_out hj] at q
      have := E.own j b o q
      rw [wipe_out' hj] at this
      exact this
  · obtain ⟨⟨o, q1⟩, q2⟩ := E.bor j b q
    have hj : j ∉ vs := fun hj => by
      rw [wipe_none (by rw [E0.len]; exact (canWipe_at hw hj).1) hj] at q2
      cases q2
    rw [wipe_out' hj] at q2
    exact ⟨⟨o, by rw [backE_out hj]; exact q1⟩, q2⟩
def Gd.hold (G : Gd) (p : Addr) (o : HO) : Gd := ⟨upd G.g p o, fun a => if a = p then none else G.z a⟩
theorem EOk.hold (E : EOk T G B Z H σ e) {p : Addr} {o : HO} (h : H p = some o) (n : ∀ i, ¬ Own σ e i p) (hz : Z p = none) (hg : G.g p = none) : EOk T (G.hold p o) B Z H σ e where
  len := E.len
  sub := E.sub
  nof := fun a h1 h2 => by
    by_cases ha : a = p
    · rw [ha]; exact hz
    · refine E.nof a ?_ ?_
      · have h1 : upd G.g p o a ≠ none := h1
        rw [upd_ne ha] at h1
        exact h1
      · have h2 : (if a = p then none else G.z a) = none := h2
        rw [if_neg ha] at h2
        exact h2
  keep := fun a u q nb => by
    have q : upd G.g p o a = some u := q
    by_cases ha : a = p
    · rw [ha, upd_same] at q
      rw [ha, h]
      exact q
    · rw [upd_ne ha] at q
      exact E.keep a u q nb
  val := E.val
  own := fun i b u q => by
    obtain ⟨a, h', q1, q2, q3, q4, q5⟩ := E.own i b u q
    refine ⟨a, h', q1, q2, q3, q4, q5.imp id fun ⟨z1, z2⟩ => ⟨z1, ?_⟩⟩
    show upd G.g p o a = none
    rw [upd_ne fun z => n i ⟨⟨_, _, q⟩, by rw [← z]; exact q1⟩]
    exact z2
  bor := E.bor
  dis := E.dis
theorem EOk.unhold {p : Addr} {o : HO} (E : EOk T (G.hold p o) B Z H σ e) (hg : G.g p = none) (hb : ∀ i, (i, p) ∉ B) : EOk T G B Z H σ e ∧ H p = some o ∧ (∀ i, ¬ Own σ e i p) ∧ Z p = none := by
  have hp : H p = some o := E.keep p o (by show upd G.g p o p = _; exact upd_same) hb
  refine ⟨⟨E.len, E.sub, fun a h1 h2 => ?_, fun a u q nb => ?_, E.val, fun i b u q => ?_, E.bor, E.dis⟩, hp, fun i ⟨⟨b, u, q⟩, q2⟩ => ?_, ?_⟩
  · have ha : a ≠ p := fun z => h1 (by rw [z]; exact hg)
    refine E.nof a ?_ ?_
    · show upd G.g p o a ≠ none
      rw [upd_ne ha]; exact h1
    · show (if a = p then none else G.z a) = none
      rw [if_neg ha]; exact h2
  · have ha : a ≠ p := fun z => by rw [z, hg] at q; cases q
    exact E.keep a u (by show upd G.g p o a = _; rw [upd_ne ha]; exact q) nb
  · obtain ⟨a, h', q1, q2, q3, q4, q5⟩ := E.own i b u q
    refine ⟨a, h', q1, q2, q3, q4, q5.imp id fun ⟨z1, z2⟩ => ⟨z1, ?_⟩⟩
    have z2 : upd G.g p o a = none := z2
    by_cases ha : a = p
    · rw [ha]; exact hg
    · rw [upd_ne ha] at z2; exact z2
  · obtain ⟨a, h', q1, q2', q3, q4, q5⟩ := E.own i b u q
    rw [q2] at q1
    cases q1
    rcases q5 with ⟨_, z⟩ | ⟨_, z⟩
    · exact hb i z
    · have z : upd G.g p o p = none := z
      rw [upd_same] at z
      cases z
  · refine E.nof p ?_ ?_
    · show upd G.g p o p ≠ none
      rw [upd_same]
      exact fun z => nomatch z
    · show (if p = p then none else G.z p) = none
      rw [if_pos rfl]
theorem EOk.put (E : EOk T G B Z H σ e) {p : Addr} {o : HO} (n : ∀ i, ¬ Own σ e i p) (hz : Z p = none) (hg : G.g p = none) : EOk T G B Z (upd H p o) σ e where
  len := E.len
  sub := fun a u q => by
    rw [upd_ne (ne_of_none q hz)]
    exact E.sub a u q
  nof := E.nof
  keep := fun a u q nb => by
    rw [upd_ne (ne_of_none q hg)]
    exact E.keep a u q nb
  val := E.val
  own := fun i b u q => by
    obtain ⟨a, h', q1, q2, q3⟩ := E.own i b u q
    refine ⟨a, h', q1, ?_, q3⟩
    rw [upd_ne fun z => n i ⟨⟨_, _, q⟩, by rw [← z]; exact q1⟩]
    exact q2
  bor := E.bor
  dis := E.dis
end
abbrev W0 : WX := fun _ _ _ _ => False
def lcL (vs : List Nat) (h : D → Env' → Option Env') (c : Env' → RT) (f : Env' → R) : List D → List D → Env' → Option (List D × Env')
  | [], acc, e => some (acc, e)
  | d :: ds, acc, e => match h d e with
    | none => none
    | some e1 => match c e1 with
      | .ok true e2 => (match (f e2) with
        | .ok r e3 => (match fz r with
          | some y => if acc.length < 16777216 ∧ canWipe e3 vs = true then lcL vs h c f ds (acc ++ [y]) (wipeE e3 vs) else none
          | none => none)
        | _ => none)
      | .ok false e2 => if canWipe e2 vs = true then lcL vs h c f ds acc (wipeE e2 vs) else none
      | _ => none
def cLc (fi : Env' → RI) (vs : List Nat) (h : D → Env' → Option Env') (c : Env' → RT) (f : Env' → R) : Env' → R := fun env => match fi env with
  | .ok ds e => if canWipe e vs = true then (match lcL vs h c f ds [] (wipeE e vs) with | some (acc, e') => .ok (.o (.l acc)) (backE e e' vs) | none => .no) else .no
  | .ex x e => .ex x e
  | .no => .no
section
variable {X : Cx} {T : Tb} {W : WX}
def STs (X : Cx) (T : Tb) (W : WX) (ifs : List Expr) (c : Env' → RT) : Prop := PTs X ifs (tXT T W c)
def cYes : Env' → RT := fun e => .ok true e
theorem PTs.weak {ifs : List Expr} {t t' : TT} (h : PTs X ifs t) (w : ∀ σ H Q, t' σ H Q → t σ H Q) : PTs X ifs t' := ⟨fun pins s σ H Q I q => h.run pins s σ H Q I (w _ _ _ q)⟩
theorem sts_0 : STs X T W [] cYes := PTs.weak pts_nil fun σ H Q ⟨G, B, Z, env, E, q⟩ => q H Z (Same.refl _) E
theorem sts_1 {c : Expr} {t : Env' → RT} (h : ST X T W c t) : STs X T W [c] t := pts_one h
theorem lc_reads {fi : Env' → RI} {js vs : List Nat} {h : D → Env' → Option Env'} {c : Env' → RT} {f : Env' → R} (hj : ∀ j ∈ js, j ∈ vs) (σ : St) (H : Hp) (Q : VK) (q : tX T W (cLc fi vs h c f) σ H Q) :
    tLc (tXI T W fi) (fun v σ H Q => ∃ G B Z env d e, EOk T G B Z H σ env ∧ Rep T Z v d ∧ h d env = some e ∧ ∀ σ', (∀ j, j ∉ js → σ'[j]? = σ[j]?) → σ'.length = σ.length → EOk T G B Z H σ' e → Q σ' H) (tXT T W0 c) (tX T W0 f) vs σ H Q := by
  obtain ⟨G, B, Z, env, E, q⟩ := q
  refine ⟨G, B, Z, env, E, ?_⟩
  unfold cLc at q
  cases hf : fi env with
  | no => rw [hf] at q; exact q.elim
  | ex x e => rw [hf] at q; exact q
  | ok ds e =>
    rw [hf] at q
    dsimp only at q
    intro H1 Z1 s1 E1 J w p hp
    by_cases hw : canWipe e vs = true
    · rw [if_pos hw] at q
      cases hL : lcL vs h c f ds [] (wipeE e vs) with
      | none => rw [hL] at q; exact q.elim
      | some r =>
        obtain ⟨accF, eF⟩ := r
        rw [hL] at q
        have hbB : ∀ i, (i, p) ∉ B := fun i hi => by
          obtain ⟨⟨o, q1⟩, q2⟩ := E1.bor i p hi
          exact E1.nown hp i ⟨⟨_, _, q1⟩, q2⟩
        have hgp : G.g p = none := E1.gnone hp
        refine ⟨fun i m H => m = ds.length - i ∧ i ≤ ds.length ∧ ∃ Z2 e2 acc va, Same Z1 Z2 ∧ EOk T G B Z2 H (wipe σ vs) e2 ∧ H p = some (.lst va) ∧ Z2 p = none ∧ (∀ i, ¬ Own (wipe σ vs) e2 i p) ∧ Reps T Z2 va acc ∧ lcL vs h c f (ds.drop i) acc e2 = some (accF, eF),
          ⟨_, rfl, Nat.zero_le _, Z1, wipeE e vs, [], [], Same.refl _, (E1.new hp).wipe hw, upd_same, E1.znone hp, fun i o => E1.nown hp i (own_wipe E1.len o).2, .nil, hL⟩, ?_⟩
        rintro i m H2 ⟨rfl, hle, Z2, e2, acc, va, s2, E2, hpv, hzp, hno, rr, hl2⟩
        by_cases hlt : i < ds.length
        · have hd : ds[i]? = some ds[i] := List.getElem?_eq_getElem hlt
          obtain ⟨go, yld⟩ := w.go i ds[i] Z2 H2 hd s2 E2.sub
          have hdrop : ds.drop i = ds[i] :: ds.drop (i + 1) := List.drop_eq_getElem_cons hlt
          rw [hdrop] at hl2
          unfold lcL at hl2
          refine .inr ⟨go, fun H' => ∃ Z3 e3 acc va, Same Z1 Z3 ∧ EOk T G B Z3 H' (wipe σ vs) e3 ∧ H' p = some (.lst va) ∧ Z3 p = none ∧ (∀ i, ¬ Own (wipe σ vs) e3 i p) ∧ Reps T Z3 va acc ∧ lcL vs h c f (ds.drop (i + 1)) acc e3 = some (accF, eF),
            fun H' ⟨Z3, e3, a3, v3, k1, k2, k3, k4, k5, k6, k7⟩ => ⟨ds.length - (i + 1), by omega, rfl, hlt, Z3, e3, a3, v3, k1, k2, k3, k4, k5, k6, k7⟩, fun x H' y => ?_⟩
          obtain ⟨Z3, s3, r3, hy⟩ := yld x H' y
          have E3 := E2.yield hy
          have hpv3 : H' p = some (.lst va) := by
            rcases hy with ⟨rfl, _⟩ | ⟨t, o, ht, rfl, _⟩
            · exact hpv
            · rw [upd_ne (ne_of_none hpv ht)]; exact hpv
          have hzp3 : Z3 p = none := by
            rcases hy with ⟨_, rfl⟩ | ⟨t, o, ht, _, rfl⟩
            · exact hzp
            · rw [upd_ne (ne_of_none hpv ht)]; exact hzp
          cases hh : h ds[i] e2 with
          | none => rw [hh] at hl2; cases hl2
          | some e3 =>
            rw [hh] at hl2
            dsimp only at hl2
            have EH := E3.hold hpv3 hno hzp3 hgp
            refine ⟨G.hold p (.lst va), B, Z3, e2, ds[i], e3, EH, r3, hh, fun σ3 n3 l3 E4 => ⟨?_, ?_⟩⟩
            · rw [wipe_same (τ := wipe σ vs) l3 fun j hjv => n3 j fun z => hjv (hj j z), wipe_wipe]
            have hw3 : wipe σ3 vs = wipe σ vs := by rw [wipe_same (τ := wipe σ vs) l3 fun j hjv => n3 j fun z => hjv (hj j z), wipe_wipe]
            refine ⟨G.hold p (.lst va), B, Z3, e3, E4, ?_⟩
            cases hc : c e3 with
            | no => rw [hc] at hl2; cases hl2
            | ex x e => rw [hc] at hl2; cases hl2
            | ok b e4 =>
              rw [hc] at hl2
              cases b with
              | false =>
                dsimp only at hl2
                by_cases hw4 : canWipe e4 vs = true
                · rw [if_pos hw4] at hl2
                  intro H5 Z5 s5 E5
                  show if false = true then _ else _
                  rw [if_neg Bool.false_ne_true]
                  have E6 := E5.wipe hw4
                  rw [hw3] at E6
                  obtain ⟨E7, k1, k2, k3⟩ := E6.unhold hgp hbB
                  exact ⟨Z5, wipeE e4 vs, acc, va, (s2.trans s3).trans s5, E7, k1, k3, k2, rr.mono (s3.trans s5), hl2⟩
                · rw [if_neg hw4] at hl2; cases hl2
              | true =>
                dsimp only at hl2
                intro H5 Z5 s5 E5
                show if true = true then _ else _
                rw [if_pos rfl]
                refine ⟨G.hold p (.lst va), B, Z5, e4, E5, ?_⟩
                cases hfe : f e4 with
                | no => rw [hfe] at hl2; cases hl2
                | ex x e => rw [hfe] at hl2; cases hl2
                | ok r e5 =>
                  rw [hfe] at hl2
                  dsimp only at hl2
                  cases hfz : fz r with
                  | none => rw [hfz] at hl2; cases hl2
                  | some y =>
                    rw [hfz] at hl2
                    dsimp only at hl2
                    by_cases hw5 : acc.length < 16777216 ∧ canWipe e5 vs = true
                    · rw [if_pos hw5] at hl2
                      intro v H6 Z6 s6 E6 r6
                      obtain ⟨Z7, s7, E7, r7⟩ : ∃ Z7, Same Z6 Z7 ∧ EOk T (G.hold p (.lst va)) B Z7 H6 σ3 e5 ∧ Rep T Z7 v y := by
                        cases r with
                        | d d => cases hfz; exact ⟨Z6, Same.refl _, E6, r6⟩
                        | o o =>
                          cases o with
                          | s c xs => cases hfz
                          | l xs =>
                            cases hfz
                            exact frozen E6 r6
                      have E8 := E7.wipe hw5.2
                      rw [hw3] at E8
                      obtain ⟨E9, k1, k2, k3⟩ := E8.unhold hgp hbB
                      have rr7 := rr.mono ((s3.trans s5).trans (s6.trans s7))
                      refine ⟨va, k1, by rw [rr7.length, SZ_eq]; exact hw5.1, Z7, wipeE e5 vs, acc ++ [y], va ++ [v], (s2.trans s3).trans (s5.trans (s6.trans s7)), E9.put k2 k3 hgp, upd_same, k3, k2, rr7.append (.cons r7 .nil), hl2⟩
                    · rw [if_neg hw5] at hl2; cases hl2
        · have e0 : i = ds.length := by omega
          subst e0
          rw [List.drop_length] at hl2
          cases hl2
          refine .inl ⟨w.stop Z2 H2 s2 E2.sub, q _ H2 Z2 (s1.trans s2) (E1.back hw E2 s2) ⟨p, _, rfl, hpv, ⟨va, rfl, rr⟩, hzp, hgp, fun i ⟨⟨b, o, k1⟩, k2⟩ => ?_⟩⟩
          by_cases hi : i ∈ vs
          · rw [backE_in (by rw [← E2.len, wipe_length, E1.len]; exact (canWipe_at hw hi).1) hi] at k1
            have hb := (canWipe_at hw hi).1
            refine (canWipe_at hw hi).2 b o ?_
            rw [List.getElem?_eq_getElem hb]
            rw [List.getD_eq_getElem?_getD, List.getElem?_eq_getElem hb] at k1
            exact k1
          · rw [backE_out hi] at k1
            exact hno i ⟨⟨b, o, k1⟩, by rw [wipe_out' hi]; exact k2⟩
    · rw [if_neg hw] at q; exact q.elim
theorem se_lc {elt tg iter : Expr} {ifs : List Expr} {scope : Scope} {own : List (Str × Nat)} {pos : Pos} {fi : Env' → RI} {js : List Nat} {vs : List Nat} {h : D → Env' → Option Env'} {c : Env' → RT} {f : Env' → R} (hc : X.calm = true) (hN : X.N.Nodup) (hi : SI X T W tg iter fi) (ok : BlkOk X.N X.env.scope scope own)
    (hg : ∀ (s : Shared) (H : Hp) (C : Addr) (cl : List (Str × Addr)) (fp : List Addr), SG (X.blk s H scope (compEnvC scope cl C X.env) fp) T tg js h) (ht : ∀ (s : Shared) (H : Hp) (C : Addr) (cl : List (Str × Addr)) (fp : List Addr), STs (X.blk s H scope (compEnvC scope cl C X.env) fp) T W0 ifs c)
    (he : ∀ (s : Shared) (H : Hp) (C : Addr) (cl : List (Str × Addr)) (fp : List Addr), SE (X.blk s H scope (compEnvC scope cl C X.env) fp) T W0 elt f) (hvs : own.map (·.2) = vs := by rfl) (hj : ∀ j ∈ js, j ∈ vs := by decide) (hs : ∀ x, foldedSetIterable iter X.env x = pure x := by intro _; rfl) :
    SE X T W (.ListComp elt [⟨tg, iter, ifs, 0⟩] scope pos) (cLc fi vs h c f) := by
  subst hvs
  exact PE.weak (pe_lc hc hN hi ok hg ht he hs) (lc_reads hj)
theorem ss_setLc {i : Nat} {y : Str} {py : Pos} {elt tg iter : Expr} {ifs : List Expr} {scope : Scope} {own : List (Str × Nat)} {pos spos : Pos} {fi : Env' → RI} {js : List Nat} {vs : List Nat} {h : D → Env' → Option Env'} {c : Env' → RT} {f : Env' → R} (hc : X.calm = true) (hN : X.N.Nodup) (hi : SI X T W tg iter fi) (ok : BlkOk X.N X.env.scope scope own)
    (hg : ∀ (s : Shared) (H : Hp) (C : Addr) (cl : List (Str × Addr)) (fp : List Addr), SG (X.blk s H scope (compEnvC scope cl C X.env) fp) T tg js h) (ht : ∀ (s : Shared) (H : Hp) (C : Addr) (cl : List (Str × Addr)) (fp : List Addr), STs (X.blk s H scope (compEnvC scope cl C X.env) fp) T W0 ifs c)
    (he : ∀ (s : Shared) (H : Hp) (C : Addr) (cl : List (Str × Addr)) (fp : List Addr), SE (X.blk s H scope (compEnvC scope cl C X.env) fp) T W0 elt f)
    (hsw : swapsWith (.ListComp elt [⟨tg, iter, ifs, 0⟩] scope pos) (some (.Name y py)) spos.line X.env = pure true := by exact sw_true rfl rfl rfl (by decide +kernel)) (hy : X.N[i]? = some y := by rfl) (hyl : X.env.scope.names.lookup y = some .local := by rfl) (hvs : own.map (·.2) = vs := by rfl) (hj : ∀ j ∈ js, j ∈ vs := by decide) (hs : ∀ x, foldedSetIterable iter X.env x = pure x := by intro _; rfl) :
    SS X T W (.Assign [.Name y py] (.ListComp elt [⟨tg, iter, ifs, 0⟩] scope pos) spos) (sSet i (cLc fi vs h c f)) := by
  subst hvs
  exact PS.weak (ps_setLc hc hN hy hyl hsw hi ok hg ht he hs) fun K σ H q => by
    have k := set_reads (i := i) rfl K σ H q
    exact lc_reads hj σ H _ k
end
end L2.S

set_option Elab.async false
set_option linter.all false
set_option maxRecDepth 100000
set_option maxHeartbeats 4000000
namespace L2.S
open PySem PySem.Spec PyProof.Rows
inductive RF where
  | ok (r : RV) (outs : List (Nat × OB)) | ex (x : Ex) (outs : List (Nat × OB)) | no
abbrev Fn := List SV → RF
def lentA (vs : List V) (as : List SV) : List (Nat × Addr) := (List.range as.length).filterMap fun (i : Nat) => match as[i]?, vs[i]? with | some (SV.own _ _), some (V.ref a) => some (i, a) | _, _ => none
theorem mem_lentA {vs : List V} {as : List SV} {i : Nat} {a : Addr} : (i, a) ∈ lentA vs as ↔ (∃ b o, as[i]? = some (.own b o)) ∧ vs[i]? = some (.ref a) := by
  unfold lentA
  rw [List.mem_filterMap]
  constructor
  · rintro ⟨j, _, h⟩
    split at h
    · rename_i b o c h1 h2
      cases h
      exact ⟨⟨_, _, h1⟩, h2⟩
    · cases h
  · rintro ⟨⟨b, o, h1⟩, h2⟩
    refine ⟨i, List.mem_range.mpr (List.getElem?_eq_some_iff.mp h1).1, ?_⟩
    rw [h1, h2]
structure ArgsOk (T : Tb) (Z H : Hp) (vs : List V) (as : List SV) : Prop where
  len : vs.length = as.length
  val : ∀ (i : Nat) (d : D), as[i]? = some (.val d) → ∃ v, vs[i]? = some v ∧ Rep T Z v d
  own : ∀ (i : Nat) (b : Bool) (o : OB), as[i]? = some (.own b o) → b = true ∧ ∃ a h, vs[i]? = some (.ref a) ∧ H a = some h ∧ ORep T Z h o ∧ Z a = none
  dis : ∀ i j a, i ≠ j → (i, a) ∈ lentA vs as → (j, a) ∉ lentA vs as
def outsA (i : Nat) : List SV → Env' → List (Nat × OB)
  | [], _ => []
  | _ :: _, [] => []
  | w :: as, x :: e => match w, x with
    | .own _ _, .own _ o => (i, o) :: outsA (i + 1) as e
    | _, _ => outsA (i + 1) as e
theorem outsA_get : ∀ {as : List SV} {e : Env'} (i j : Nat) {b c : Bool} {o o' : OB}, as[j]? = some (.own b o) → e[j]? = some (.own c o') → (outsA i as e).lookup (i + j) = some o'
  | [], _, _, _, _, _, _, _, h, _ => by simp at h
  | _ :: _, [], _, _, _, _, _, _, _, h => by simp at h
  | w :: as, x :: e, i, 0, b, c, o, o', h1, h2 => by
    simp at h1 h2
    subst h1; subst h2
    simp [outsA]
  | w :: as, x :: e, i, j + 1, b, c, o, o', h1, h2 => by
    have ih := outsA_get (as := as) (e := e) (i + 1) j (b := b) (c := c) (o := o) (o' := o') (by simpa using h1) (by simpa using h2)
    have e1 : i + 1 + j = i + (j + 1) := by omega
    rw [e1] at ih
    unfold outsA
    split
    · rw [List.lookup_cons]
      have : (i + (j + 1) == i) = false := by simp
      rw [this]
      exact ih
    · exact ih
def ResOk (T : Tb) (H Z' H' : Hp) (v : V) : RV → Prop
  | .d d => Rep T Z' v d
  | .o o => ∃ a h, v = .ref a ∧ H' a = some h ∧ ORep T Z' h o ∧ Z' a = none ∧ H a = none
structure After (T : Tb) (Z H Z' H' : Hp) (vs : List V) (as : List SV) (outs : List (Nat × OB)) : Prop where
  zz : Same Z Z'
  sub : Same Z' H'
  keep : ∀ a o, H a = some o → (∀ i, (i, a) ∉ lentA vs as) → H' a = some o
  nof : ∀ a, H a ≠ none → Z a = none → Z' a = none
  outs : ∀ i a, (i, a) ∈ lentA vs as → ∃ o h, outs.lookup i = some o ∧ H' a = some h ∧ ORep T Z' h o ∧ Z' a = none
def PF (T : Tb) (Z H : Hp) (vs : List V) (as : List SV) (Q : VK) (E : XK) : RF → Prop
  | .ok r outs => ∀ v H' Z', After T Z H Z' H' vs as outs → ResOk T H Z' H' v r → Q v H'
  | .ex x outs => ∀ cls d H' Z', After T Z H Z' H' vs as outs → XRep T Z' H' cls d x → E cls d H'
  | .no => False
def sp (T : Tb) (φ : Fn) : Sp := fun vs H Q E => ∃ Z as, Same Z H ∧ ArgsOk T Z H vs as ∧ PF T Z H vs as Q E (φ as)
def bodyF (g : Env' → RS) (n : Nat) (as : List SV) : RF := match g (as ++ List.replicate (n - as.length) .un) with
  | .rt r e => .ok r (outsA 0 as e)
  | .nx e => .ok (.d .non) (outsA 0 as e)
  | .ex x e => .ex x (outsA 0 as e)
  | _ => .no
theorem EOk.start {T : Tb} {Z H : Hp} {vs : List V} {as : List SV} {N : List Str} (s : Same Z H) (A : ArgsOk T Z H vs as) (hl : as.length ≤ N.length) : EOk T ⟨H, Z⟩ (lentA vs as) Z H (start N vs) (as ++ List.replicate (N.length - as.length) .un) := by
  have av : ∀ (j : Nat) (w : SV), (as ++ List.replicate (N.length - as.length) SV.un)[j]? = some w → w ≠ .un → as[j]? = some w := fun j w q hn => by
    by_cases hj : j < as.length
    · rw [List.getElem?_append_left hj] at q; exact q
    · rw [List.getElem?_append_right (by omega), List.getElem?_replicate] at q
      split at q
      · cases q; exact (hn rfl).elim
      · cases q
  have vv : ∀ (j : Nat) (v : V), vs[j]? = some v → (L2.start N vs)[j]? = some (some v) := fun j v q => by
    have hj := (List.getElem?_eq_some_iff.mp q).1
    unfold L2.start
    rw [List.getElem?_append_left (by simpa using hj), List.getElem?_map, q]
    rfl
  have oo : ∀ j a, Own (L2.start N vs) (as ++ List.replicate (N.length - as.length) SV.un) j a → (j, a) ∈ lentA vs as := fun j a ⟨⟨b, o, q⟩, q2⟩ => by
    have q' := av j _ q (fun z => nomatch z)
    obtain ⟨_, a', h, e1, _⟩ := A.own j b o q'
    have := vv j _ e1
    rw [q2] at this
    cases this
    exact mem_lentA.mpr ⟨⟨b, o, q'⟩, e1⟩
  refine ⟨?_, s, fun a h1 h2 => h2, fun a o q _ => q, fun j d q => ?_, fun j b o q => ?_, fun j a q => ?_, fun j k a n o1 o2 => A.dis j k a n (oo j a o1) (oo k a o2)⟩
  · unfold L2.start
    rw [List.length_append, List.length_append, List.length_map, List.length_replicate, List.length_replicate, A.len]
  · obtain ⟨v, e1, r⟩ := A.val j d (av j _ q (fun z => nomatch z))
    exact ⟨v, vv j v e1, r⟩
  · have q' := av j _ q (fun z => nomatch z)
    obtain ⟨eb, a, h, e1, e2, e3, e4⟩ := A.own j b o q'
    exact ⟨a, h, vv j _ e1, e2, e3, e4, .inl ⟨eb, mem_lentA.mpr ⟨⟨b, o, q'⟩, e1⟩⟩⟩
  · obtain ⟨⟨b, o, q1⟩, q2⟩ := mem_lentA.mp q
    obtain ⟨eb, _⟩ := A.own j b o q1
    subst eb
    refine ⟨⟨o, ?_⟩, vv j _ q2⟩
    rw [List.getElem?_append_left (List.getElem?_eq_some_iff.mp q1).1]
    exact q1
theorem EOk.after {T : Tb} {Z H Z' H' : Hp} {vs : List V} {as : List SV} {σ : St} {e : Env'} (A : ArgsOk T Z H vs as) (s : Same Z Z') (E : EOk T ⟨H, Z⟩ (lentA vs as) Z' H' σ e) : After T Z H Z' H' vs as (outsA 0 as e) where
  zz := s
  sub := E.sub
  keep := fun a o q n => E.keep a o q n
  nof := fun a h1 h2 => E.nof a h1 h2
  outs := fun i a q => by
    obtain ⟨⟨o, q1⟩, q2⟩ := E.bor i a q
    obtain ⟨a', h, e1, e2, e3, e4, _⟩ := E.own i true o q1
    rw [q2] at e1
    cases e1
    obtain ⟨⟨b, o', k1⟩, k2⟩ := mem_lentA.mp q
    have := outsA_get 0 i k1 q1
    rw [Nat.zero_add] at this
    exact ⟨o, h, this, e2, e3, e4⟩
def svs (e : Env') : List AV → Option (List SV)
  | [] => some []
  | .d d :: as => (svs e as).map (.val d :: ·)
  | .s i :: as => match e[i]? with | some (.own _ o) => (svs e as).map (.own true o :: ·) | _ => none
def slots : List AV → List Nat
  | [] => []
  | .d _ :: as => slots as
  | .s i :: as => i :: slots as
def setO (e : Env') (i : Nat) (o : OB) : Env' := match e[i]? with | some (.own b _) => e.set i (.own b o) | _ => e
def putA (k : Nat) (e : Env') (outs : List (Nat × OB)) : List AV → Env'
  | [] => e
  | .d _ :: as => putA (k + 1) e outs as
  | .s i :: as => putA (k + 1) (match outs.lookup k with | some o => setO e i o | none => e) outs as
def callR (φ : Fn) (dds : List D) (avs : List AV) (e : Env') : R := match svs e avs with
  | some as => if (slots avs).Nodup then (match φ (as ++ dds.map .val) with
    | .ok r outs => .ok r (putA 0 e outs avs)
    | .ex x outs => .ex x (putA 0 e outs avs)
    | .no => .no) else .no
  | none => .no
theorem svs_get {e : Env'} : ∀ {avs : List AV} {as : List SV}, svs e avs = some as → as.length = avs.length ∧ ∀ (k : Nat), (∀ d, avs[k]? = some (.d d) → as[k]? = some (.val d)) ∧ (∀ i, avs[k]? = some (.s i) → ∃ b o, e[i]? = some (.own b o) ∧ as[k]? = some (.own true o))
  | [], _, h => by cases h; exact ⟨rfl, fun k => ⟨fun d q => by simp at q, fun i q => by simp at q⟩⟩
  | .d d :: avs, as, h => by
    have h' : (svs e avs).map (SV.val d :: ·) = some as := h
    cases q : svs e avs with
    | none => rw [q] at h'; cases h'
    | some r =>
      rw [q] at h'
      cases h'
      obtain ⟨h1, h2⟩ := svs_get q
      refine ⟨by rw [List.length_cons, List.length_cons, h1], fun k => ?_⟩
      cases k with
      | zero => exact ⟨fun d' q' => by simp at q'; simp [q'], fun i q' => by simp at q'⟩
      | succ k => exact ⟨fun d' q' => by simpa using (h2 k).1 d' (by simpa using q'), fun i q' => by simpa using (h2 k).2 i (by simpa using q')⟩
  | .s i :: avs, as, h => by
    unfold svs at h
    split at h
    · rename_i b o he
      cases q : svs e avs with
      | none => rw [q] at h; cases h
      | some r =>
        rw [q] at h
        cases h
        obtain ⟨h1, h2⟩ := svs_get q
        refine ⟨by rw [List.length_cons, List.length_cons, h1], fun k => ?_⟩
        cases k with
        | zero => exact ⟨fun d' q' => by simp at q', fun j q' => by simp at q'; subst q'; exact ⟨b, o, he, by simp⟩⟩
        | succ k => exact ⟨fun d' q' => by simpa using (h2 k).1 d' (by simpa using q'), fun i q' => by simpa using (h2 k).2 i (by simpa using q')⟩
    · cases h
theorem avok_get {T : Tb} {Z : Hp} {σ : St} : ∀ {vs : List V} {as : List AV}, AVOk T Z σ vs as → vs.length = as.length ∧ ∀ (k : Nat), (∀ d, as[k]? = some (.d d) → ∃ v, vs[k]? = some v ∧ Rep T Z v d) ∧ (∀ i, as[k]? = some (.s i) → ∃ v, vs[k]? = some v ∧ σ[i]? = some (some v))
  | [], [], _ => ⟨rfl, fun k => ⟨fun d q => by simp at q, fun i q => by simp at q⟩⟩
  | v :: vs, .d d :: as, h => by
    obtain ⟨h1, h2⟩ := avok_get h.2
    refine ⟨by rw [List.length_cons, List.length_cons, h1], fun k => ?_⟩
    cases k with
    | zero => exact ⟨fun d' q => by simp at q; subst q; exact ⟨v, by simp, h.1⟩, fun i q => by simp at q⟩
    | succ k => exact ⟨fun d' q => by simpa using (h2 k).1 d' (by simpa using q), fun i q => by simpa using (h2 k).2 i (by simpa using q)⟩
  | v :: vs, .s i :: as, h => by
    obtain ⟨h1, h2⟩ := avok_get h.2
    refine ⟨by rw [List.length_cons, List.length_cons, h1], fun k => ?_⟩
    cases k with
    | zero => exact ⟨fun d' q => by simp at q, fun j q => by simp at q; subst q; exact ⟨v, by simp, h.1⟩⟩
    | succ k => exact ⟨fun d' q => by simpa using (h2 k).1 d' (by simpa using q), fun i q => by simpa using (h2 k).2 i (by simpa using q)⟩
  | [], .d _ :: _, h => h.elim
  | [], .s _ :: _, h => h.elim
  | _ :: _, [], h => h.elim
theorem mem_slots : ∀ {avs : List AV} {i : Nat}, i ∈ slots avs ↔ ∃ k : Nat, avs[k]? = some (.s i)
  | [], i => by simp [slots]
  | .d d :: avs, i => by
    rw [slots, mem_slots]
    exact ⟨fun ⟨k, h⟩ => ⟨k + 1, by simpa using h⟩, fun ⟨k, h⟩ => by
      cases k with
      | zero => simp at h
      | succ k => exact ⟨k, by simpa using h⟩⟩
  | .s j :: avs, i => by
    rw [slots, List.mem_cons, mem_slots]
    constructor
    · rintro (rfl | ⟨k, h⟩)
      · exact ⟨0, by simp⟩
      · exact ⟨k + 1, by simpa using h⟩
    · rintro ⟨k, h⟩
      cases k with
      | zero => simp at h; exact .inl h.symm
      | succ k => exact .inr ⟨k, by simpa using h⟩
theorem slots_inj : ∀ {avs : List AV} {i k l : Nat}, (slots avs).Nodup → avs[k]? = some (.s i) → avs[l]? = some (.s i) → k = l
  | [], _, _, _, _, h, _ => by simp at h
  | .d d :: avs, i, k, l, nd, h1, h2 => by
    cases k with
    | zero => simp at h1
    | succ k =>
      cases l with
      | zero => simp at h2
      | succ l => rw [slots_inj (avs := avs) (i := i) (k := k) (l := l) nd (by simpa using h1) (by simpa using h2)]
  | .s j :: avs, i, k, l, nd, h1, h2 => by
    have nd' := List.nodup_cons.mp nd
    cases k with
    | zero =>
      cases l with
      | zero => rfl
      | succ l =>
        simp at h1
        subst h1
        exact (nd'.1 (mem_slots.mpr ⟨l, by simpa using h2⟩)).elim
    | succ k =>
      cases l with
      | zero =>
        simp at h2
        subst h2
        exact (nd'.1 (mem_slots.mpr ⟨k, by simpa using h1⟩)).elim
      | succ l => rw [slots_inj (avs := avs) (i := i) (k := k) (l := l) nd'.2 (by simpa using h1) (by simpa using h2)]
theorem setO_length (e : Env') (i : Nat) (o : OB) : (setO e i o).length = e.length := by
  unfold setO
  split
  · rw [List.length_set]
  · rfl
theorem setO_ne {e : Env'} {i j : Nat} {o : OB} (h : i ≠ j) : (setO e i o)[j]? = e[j]? := by
  unfold setO
  split
  · rw [List.getElem?_set_ne h]
  · rfl
theorem setO_at {e : Env'} {i : Nat} {o o' : OB} {b : Bool} (h : e[i]? = some (.own b o')) : (setO e i o)[i]? = some (.own b o) := by
  unfold setO
  rw [h]
  exact List.getElem?_set_self (List.getElem?_eq_some_iff.mp h).1
theorem putA_length {outs : List (Nat × OB)} : ∀ {avs : List AV} (k : Nat) (e : Env'), (putA k e outs avs).length = e.length
  | [], _, _ => rfl
  | .d _ :: avs, k, e => putA_length (avs := avs) (k + 1) e
  | .s i :: avs, k, e => by
    show (putA (k + 1) _ outs avs).length = _
    rw [putA_length (avs := avs)]
    split
    · rw [setO_length]
    · rfl
theorem putA_out {outs : List (Nat × OB)} {j : Nat} : ∀ {avs : List AV} (k : Nat) (e : Env'), j ∉ slots avs → (putA k e outs avs)[j]? = e[j]?
  | [], _, _, _ => rfl
  | .d _ :: avs, k, e, h => putA_out (avs := avs) (k + 1) e h
  | .s i :: avs, k, e, h => by
    rw [slots, List.mem_cons, not_or] at h
    show (putA (k + 1) _ outs avs)[j]? = _
    rw [putA_out (avs := avs) _ _ h.2]
    split
    · exact setO_ne fun z => h.1 z.symm
    · rfl
theorem putA_at {outs : List (Nat × OB)} {i : Nat} {b : Bool} {o o' : OB} : ∀ {avs : List AV} (k l : Nat) (e : Env'), (slots avs).Nodup → avs[l]? = some (.s i) → e[i]? = some (.own b o') → outs.lookup (k + l) = some o → (putA k e outs avs)[i]? = some (.own b o)
  | [], _, _, _, _, h, _, _ => by simp at h
  | .d _ :: avs, k, l, e, nd, h, he, ho => by
    cases l with
    | zero => simp at h
    | succ l =>
      have e1 : k + (l + 1) = k + 1 + l := by omega
      rw [e1] at ho
      exact putA_at (avs := avs) (k + 1) l e nd (by simpa using h) he ho
  | .s j :: avs, k, l, e, nd, h, he, ho => by
    have nd' := List.nodup_cons.mp nd
    cases l with
    | zero =>
      simp at h
      subst h
      show (putA (k + 1) _ outs avs)[j]? = _
      rw [putA_out (avs := avs) _ _ nd'.1]
      rw [Nat.add_zero] at ho
      rw [ho]
      exact setO_at he
    | succ l =>
      have e1 : k + (l + 1) = k + 1 + l := by omega
      rw [e1] at ho
      have hij : j ≠ i := fun z => nd'.1 (mem_slots.mpr ⟨l, by rw [z]; simpa using h⟩)
      refine putA_at (o' := o') (avs := avs) (k + 1) l _ nd'.2 (by simpa using h) ?_ ho
      split
      · rw [setO_ne hij]; exact he
      · exact he
section
variable {T : Tb} {W : WX} {G : Gd} {B : List (Nat × Addr)} {Z H : Hp} {σ : St} {e : Env'} {vs : List V} {avs : List AV} {as : List SV} {φ : Fn} {Q : VK}
theorem args_ok (E : EOk T G B Z H σ e) (r : AVOk T Z σ vs avs) (hs : svs e avs = some as) (nd : (slots avs).Nodup) : ArgsOk T Z H vs as ∧ ∀ k a, (k, a) ∈ lentA vs as ↔ ∃ i, avs[k]? = some (.s i) ∧ Own σ e i a := by
  obtain ⟨l1, g1⟩ := svs_get hs
  obtain ⟨l2, g2⟩ := avok_get r
  have at_ : ∀ (k : Nat) (w : SV), as[k]? = some w → (∃ d, avs[k]? = some (.d d) ∧ w = .val d) ∨ ∃ i b o, avs[k]? = some (.s i) ∧ e[i]? = some (.own b o) ∧ w = .own true o := fun k w q => by
    have hk : k < avs.length := by rw [← l1]; exact (List.getElem?_eq_some_iff.mp q).1
    have hq : avs[k]? = some avs[k] := List.getElem?_eq_getElem hk
    cases hv : avs[k] with
    | d d =>
      rw [hv] at hq
      have := (g1 k).1 d hq
      rw [q] at this
      cases this
      exact .inl ⟨d, hq, rfl⟩
    | s i =>
      rw [hv] at hq
      obtain ⟨b, o, h1, h2⟩ := (g1 k).2 i hq
      rw [q] at h2
      cases h2
      exact .inr ⟨i, b, o, hq, h1, rfl⟩
  have mb : ∀ k a, (k, a) ∈ lentA vs as ↔ ∃ i, avs[k]? = some (.s i) ∧ Own σ e i a := fun k a => by
    constructor
    · intro q
      obtain ⟨⟨b, o, q1⟩, q2⟩ := mem_lentA.mp q
      rcases at_ k _ q1 with ⟨d, _, z⟩ | ⟨i, b', o', h1, h2, z⟩
      · cases z
      · obtain ⟨v, k1, k2⟩ := (g2 k).2 i h1
        rw [q2] at k1
        cases k1
        exact ⟨i, h1, ⟨b', o', h2⟩, k2⟩
    · rintro ⟨i, h1, ⟨_, _, _⟩, h3⟩
      obtain ⟨b', o', h4, h5⟩ := (g1 k).2 i h1
      obtain ⟨v, k1, k2⟩ := (g2 k).2 i h1
      rw [h3] at k2
      cases k2
      exact mem_lentA.mpr ⟨⟨_, _, h5⟩, k1⟩
  refine ⟨⟨by rw [l1, l2], fun k d q => ?_, fun k b o q => ?_, fun k l a n q1 q2 => ?_⟩, mb⟩
  · rcases at_ k _ q with ⟨d', h1, z⟩ | ⟨i, b, o, _, _, z⟩
    · cases z
      exact (g2 k).1 d h1
    · cases z
  · rcases at_ k _ q with ⟨d', h1, z⟩ | ⟨i, b', o', h1, h2, z⟩
    · cases z
    · cases z
      obtain ⟨v, k1, k2⟩ := (g2 k).2 i h1
      obtain ⟨a, h, e1, e2, e3, e4, _⟩ := E.own i b' o h2
      rw [k2] at e1
      cases e1
      exact ⟨rfl, a, h, k1, e2, e3, e4⟩
  · obtain ⟨i, h1, o1⟩ := (mb k a).mp q1
    obtain ⟨j, h2, o2⟩ := (mb l a).mp q2
    by_cases hij : i = j
    · subst hij
      exact n (slots_inj nd h1 h2)
    · exact E.dis i j a hij o1 o2
theorem back_ok {Z' H' : Hp} {outs : List (Nat × OB)} (E : EOk T G B Z H σ e) (hs : svs e avs = some as) (nd : (slots avs).Nodup) (mb : ∀ k a, (k, a) ∈ lentA vs as ↔ ∃ i, avs[k]? = some (.s i) ∧ Own σ e i a) (A : After T Z H Z' H' vs as outs) : EOk T G B Z' H' σ (putA 0 e outs avs) := by
  have hn : ∀ a, G.g a ≠ none → H a ≠ none := fun a h1 h2 => h1 (E.gnone h2)
  have lent : ∀ {k i : Nat}, avs[k]? = some (.s i) → ∃ b o o' a h, e[i]? = some (.own b o') ∧ σ[i]? = some (some (.ref a)) ∧ (putA 0 e outs avs)[i]? = some (.own b o) ∧ H' a = some h ∧ ORep T Z' h o ∧ Z' a = none ∧ ((b = true ∧ (i, a) ∈ B) ∨ (b = false ∧ G.g a = none)) := fun {k i} h1 => by
    obtain ⟨b, o', h2, _⟩ := ((svs_get hs).2 k).2 i h1
    obtain ⟨a, h, e1, e2, e3, e4, e5⟩ := E.own i b o' h2
    obtain ⟨o, h', k1, k2, k3, k4⟩ := A.outs k a ((mb k a).mpr ⟨i, h1, ⟨b, o', h2⟩, e1⟩)
    exact ⟨b, o, o', a, h', h2, e1, putA_at 0 k e nd h1 h2 (by rw [Nat.zero_add]; exact k1), k2, k3, k4, e5⟩
  have own_ : ∀ i a, Own σ (putA 0 e outs avs) i a → Own σ e i a := fun i a ⟨⟨b, o, q⟩, q2⟩ => by
    by_cases hi : i ∈ slots avs
    · obtain ⟨k, hk⟩ := mem_slots.mp hi
      obtain ⟨b', o', o2, a', h, h1, _⟩ := lent hk
      exact ⟨⟨b', o2, h1⟩, q2⟩
    · rw [putA_out 0 e hi] at q
      exact ⟨⟨b, o, q⟩, q2⟩
  refine ⟨by rw [putA_length]; exact E.len, A.sub, fun a h1 h2 => A.nof a (hn a h1) (E.nof a h1 h2), fun a o q nb => A.keep a o (E.keep a o q nb) fun k hk => ?_, fun i d q => ?_, fun i b o q => ?_, fun i a q => ?_, fun i j a n o1 o2 => E.dis i j a n (own_ i a o1) (own_ j a o2)⟩
  · obtain ⟨i, h1, ⟨b, o', h2⟩, h3⟩ := (mb k a).mp hk
    obtain ⟨a', h, e1, _, _, _, e5⟩ := E.own i b o' h2
    rw [h3] at e1
    cases e1
    rcases e5 with ⟨_, z⟩ | ⟨_, z⟩
    · exact nb i z
    · rw [q] at z; cases z
  · by_cases hi : i ∈ slots avs
    · obtain ⟨k, hk⟩ := mem_slots.mp hi
      obtain ⟨b, o, _, a, h, _, _, h1, _⟩ := lent hk
      rw [q] at h1
      cases h1
    · rw [putA_out 0 e hi] at q
      obtain ⟨v, q1, q2⟩ := E.val i d q
      exact ⟨v, q1, q2.mono A.zz⟩
  · by_cases hi : i ∈ slots avs
    · obtain ⟨k, hk⟩ := mem_slots.mp hi
      obtain ⟨b', o', _, a, h, _, h0, h1, h2, h3, h4, h5⟩ := lent hk
      rw [q] at h1
      cases h1
      exact ⟨a, h, h0, h2, h3, h4, h5⟩
    · rw [putA_out 0 e hi] at q
      obtain ⟨a, h, e1, e2, e3, e4, e5⟩ := E.own i b o q
      refine ⟨a, h, e1, A.keep a h e2 fun k hk => ?_, e3.mono A.zz, A.nof a (by rw [e2]; exact fun z => nomatch z) e4, e5⟩
      obtain ⟨j, h1, oj⟩ := (mb k a).mp hk
      have hij : i ≠ j := fun z => hi (mem_slots.mpr ⟨k, by rw [z]; exact h1⟩)
      exact E.dis i j a hij ⟨⟨b, o, q⟩, e1⟩ oj
  · obtain ⟨⟨o, q1⟩, q2⟩ := E.bor i a q
    by_cases hi : i ∈ slots avs
    · obtain ⟨k, hk⟩ := mem_slots.mp hi
      obtain ⟨b', o', o2, a', h, h1, _, h2, _⟩ := lent hk
      rw [q1] at h1
      cases h1
      exact ⟨⟨o', h2⟩, q2⟩
    · exact ⟨⟨o, by rw [putA_out 0 e hi]; exact q1⟩, q2⟩
theorem res_ok {Z' H' : Hp} {outs : List (Nat × OB)} {v : V} {r : RV} (E : EOk T G B Z H σ e) (E' : EOk T G B Z' H' σ (putA 0 e outs avs)) (own_ : ∀ i a, Own σ (putA 0 e outs avs) i a → H a ≠ none) (rr : ResOk T H Z' H' v r) : RRep T G Z' H' σ (putA 0 e outs avs) v r := by
  cases r with
  | d d => exact rr
  | o o =>
    obtain ⟨a, h, e1, e2, e3, e4, e5⟩ := rr
    exact ⟨a, h, e1, e2, e3, e4, E.gnone e5, fun i oi => own_ i a oi e5⟩
theorem own_there {outs : List (Nat × OB)} (E : EOk T G B Z H σ e) (hs : svs e avs = some as) (i : Nat) (a : Addr) (o : Own σ (putA 0 e outs avs) i a) : H a ≠ none := by
  obtain ⟨⟨b, o, q⟩, q2⟩ := o
  have : ∃ b o, e[i]? = some (.own b o) := by
    by_cases hi : i ∈ slots avs
    · obtain ⟨k, hk⟩ := mem_slots.mp hi
      obtain ⟨b', o', h2, _⟩ := ((svs_get hs).2 k).2 i hk
      exact ⟨b', o', h2⟩
    · rw [putA_out 0 e hi] at q
      exact ⟨b, o, q⟩
  obtain ⟨b', o', h2⟩ := this
  obtain ⟨a', h, e1, e2, _⟩ := E.own i b' o' h2
  rw [q2] at e1
  cases e1
  rw [e2]
  exact fun z => nomatch z
def Dfl (T : Tb) (dvs : List V) (dds : List D) : Prop := ∀ Z, Reps T Z dvs dds
theorem ArgsOk.dfl (A : ArgsOk T Z H vs as) {dvs : List V} {dds : List D} (d : Dfl T dvs dds) : ArgsOk T Z H (vs ++ dvs) (as ++ dds.map .val) ∧ ∀ k a, (k, a) ∈ lentA (vs ++ dvs) (as ++ dds.map .val) ↔ (k, a) ∈ lentA vs as := by
  have rd := d Z
  have av : ∀ (k : Nat) (w : SV), (as ++ dds.map SV.val)[k]? = some w → as[k]? = some w ∨ (as.length ≤ k ∧ ∃ d, dds[k - as.length]? = some d ∧ w = .val d) := fun k w q => by
    by_cases hk : k < as.length
    · rw [List.getElem?_append_left hk] at q; exact .inl q
    · rw [List.getElem?_append_right (by omega), List.getElem?_map] at q
      cases z : dds[k - as.length]? with
      | none => rw [z] at q; cases q
      | some d => rw [z] at q; cases q; exact .inr ⟨by omega, d, rfl, rfl⟩
  have left : ∀ (k : Nat) (v : V), k < as.length → (vs ++ dvs)[k]? = some v → vs[k]? = some v := fun k v hk q => by
    rw [List.getElem?_append_left (by rw [A.len]; exact hk)] at q; exact q
  have right : ∀ (k : Nat) (v : V), vs[k]? = some v → (vs ++ dvs)[k]? = some v := fun k v q => by
    rw [List.getElem?_append_left (List.getElem?_eq_some_iff.mp q).1]; exact q
  have mb : ∀ k a, (k, a) ∈ lentA (vs ++ dvs) (as ++ dds.map .val) ↔ (k, a) ∈ lentA vs as := fun k a => by
    rw [mem_lentA, mem_lentA]
    constructor
    · rintro ⟨⟨b, o, q⟩, q2⟩
      rcases av k _ q with q | ⟨_, _, _, z⟩
      · exact ⟨⟨b, o, q⟩, left k _ (List.getElem?_eq_some_iff.mp q).1 q2⟩
      · cases z
    · rintro ⟨⟨b, o, q⟩, q2⟩
      refine ⟨⟨b, o, ?_⟩, right k _ q2⟩
      rw [List.getElem?_append_left (List.getElem?_eq_some_iff.mp q).1]
      exact q
  refine ⟨⟨by rw [List.length_append, List.length_append, List.length_map, A.len, rd.length], fun k d q => ?_, fun k b o q => ?_, fun k l a n q1 q2 => A.dis k l a n ((mb k a).mp q1) ((mb l a).mp q2)⟩, mb⟩
  · rcases av k _ q with q | ⟨hk, d', q, z⟩
    · obtain ⟨v, h1, h2⟩ := A.val k d q
      exact ⟨v, right k v h1, h2⟩
    · cases z
      obtain ⟨v, h1, h2⟩ := rd.get q
      exact ⟨v, by rw [List.getElem?_append_right (by rw [A.len]; exact hk), A.len]; exact h1, h2⟩
  · rcases av k _ q with q | ⟨hk, d', q, z⟩
    · obtain ⟨eb, a, h, h1, h2⟩ := A.own k b o q
      exact ⟨eb, a, h, right k _ h1, h2⟩
    · cases z
theorem After.dfl {Z' H' : Hp} {outs : List (Nat × OB)} {vs' : List V} {as' : List SV} (A : After T Z H Z' H' vs' as' outs) (mb : ∀ k a, (k, a) ∈ lentA vs' as' ↔ (k, a) ∈ lentA vs as) : After T Z H Z' H' vs as outs :=
  ⟨A.zz, A.sub, fun a o q n => A.keep a o q fun i hi => n i ((mb i a).mp hi), A.nof, fun i a q => A.outs i a ((mb i a).mpr q)⟩
theorem call_sp {dvs : List V} {dds : List D} (dfl : Dfl T dvs dds) (E : EOk T G B Z H σ e) (r : AVOk T Z σ vs avs) (h : PR T W G B Z σ Q (callR φ dds avs e)) : sp T φ (vs ++ dvs) H Q (fun cls d H' => W cls d σ H') := by
  unfold callR at h
  cases hs : svs e avs with
  | none => rw [hs] at h; exact h.elim
  | some as =>
    rw [hs] at h
    dsimp only at h
    by_cases nd : (slots avs).Nodup
    · rw [if_pos nd] at h
      obtain ⟨A, mb⟩ := args_ok E r hs nd
      obtain ⟨A2, mb2⟩ := A.dfl dfl
      refine ⟨Z, as ++ dds.map .val, E.sub, A2, ?_⟩
      cases hφ : φ (as ++ dds.map .val) with
      | no => rw [hφ] at h; exact h.elim
      | ok r outs =>
        rw [hφ] at h
        intro v H' Z' Af rr
        have Af' := Af.dfl mb2
        have E' := back_ok E hs nd mb Af'
        exact h v H' Z' Af.zz E' (res_ok E E' (own_there E hs) rr)
      | ex x outs =>
        rw [hφ] at h
        intro c d H' Z' Af rr
        have Af' := Af.dfl mb2
        exact h c d H' Z' Af.zz (back_ok E hs nd mb Af') rr
    · rw [if_neg nd] at h; exact h.elim
end
end L2.S

set_option Elab.async false
set_option linter.all false
set_option maxRecDepth 100000
set_option maxHeartbeats 4000000
namespace L2.S
open PySem PySem.Spec PyProof.Rows
section
variable {X : Cx} {CX : CXT} {k : Nat} {f C : Addr} {fd : FuncData} {ps : List Str} {sp : Sp} {dvs : List V} {ds : List Value} {E : St → XK} {x m : Str} {p pos apos : Pos} {e o : Expr} {es : List Expr} {ta : TE} {t : TA}
theorem run_fnG {pins : List (Addr × Obj)} {σ : St} {H : Hp} {s : Shared} {Q : VK} {us : List Value} {vs : List V} {E : XK} (F : FnOk X.prog X.w X.K X.mg X.base CX k f fd ps sp) (hr : Room k X.A) (hb : Binds X.K fd ps ds) (hd : Vals dvs ds) (hx : PassesAt CX X σ E)
    (I : Inv X pins σ H s) (r : Vals vs us) (h : sp (vs ++ dvs) H Q E) : wpAny (model X.prog X.w) X.A (call (.ref f) us) (EP X pins σ Q) X.xe s := by
  have r2 : Vals (vs ++ dvs) (us ++ ds) := r.append hd
  have hl : (us ++ ds).length = ps.length := by rw [← r2.length]; exact F.len _ _ _ _ h
  refine wpAny_call (codeAny_mono (F.run X.A X.stack s H ⟨us, []⟩ (us ++ ds) (vs ++ dvs) Q E hr I.env0 (hb s us I.kIn hl) r2 h) fun r s' hq => ?_)
  cases r with
  | error e => exact hx pins H s e s' I hq
  | ok fl =>
    cases fl with
    | ret u => exact I.after hq
    | next => exact False.elim hq
    | brk => exact False.elim hq
    | cont => exact False.elim hq
theorem pe_callG (F : FnOk X.prog X.w X.K X.mg X.base CX k f fd ps sp) (hr : Room k X.A) (hg : Gl X x) (hm : X.mg x = some (.ref f)) (hk : PySem.W.keepIn X.K (.ref f) = true) (hb : Binds X.K fd ps ds) (hd : Vals dvs ds) (hx : ∀ σ, PassesAt CX X σ (E σ))
    (ha : PA X (e :: es) t) (hdb : (x == ("__debug__" : Str)) = false := by decide) (he : starEach (e :: es) X.env = (false, eval e X.env) :: starEach es X.env := by rfl) (hpl : (backTo pos (starEach es X.env)).any (·.1) = false := by rfl) :
    PE X (.Call (.Name x p) (e :: es) [] pos) (fun σ H Q => t σ H fun vs H1 => sp (vs ++ dvs) H1 Q (E σ)) := by
  refine ⟨fun pins s σ H Q I h => ?_⟩
  refine wpAny_Call_Name_kw (ld_glob I hg hm ?_ hdb)
  refine PySem.W.callWith_K (h₀ := X.base) I.ok.mod.kin hk (thn (ha.run pos pins s σ H _ I h) fun us s1 ⟨vs, H1, I1, r, q⟩ => ⟨I1.kIn, ?_⟩) he hpl
  exact run_fnG F hr hb hd (hx σ) I1 r q
end
structure FnC (P : Program) (w : World) (K : PySem.W.Frag) (mg : Str → Option Value) (base : Heap) (T : Tb) (k : Nat) (φ : Fn) (dds : List D) (f : Addr) : Prop where
  ex : ∃ fd ps dvs ds, FnOk P w K mg base (L2.CX P w) k f fd ps (sp T φ) ∧ Binds K fd ps ds ∧ Vals dvs ds ∧ Dfl T dvs dds
  kp : PySem.W.keepIn K (.ref f) = true
structure ClsF (K : PySem.W.Frag) (T : Tb) (c : Nat) : Prop where
  cl : Cls K (T.cl c)
  nf : ∀ f ∈ T.fl c, NoAttr K (T.cl c) f
  nd : (T.fl c).Nodup
  few : (T.fl c).length < 900
section
variable {X : Cx} {T : Tb} {W : WX} {a b c e : Expr} {es : List Expr} {f g : Env' → R} {fa : Env' → RA} {pos p apos : Pos} {k : Nat} {φ : Fn} {dds : List D} {x m : Str} {fx : Addr}
def cCall (φ : Fn) (dds : List D) (fa : Env' → RA) : Env' → R := fun env => (fa env).bind fun as e => callR φ dds as e
theorem se_call (F : FnC X.prog X.w X.K X.mg X.base T k φ dds fx) (hm : X.mg x = some (.ref fx)) (hr : Room k X.A) (tk : Takes X W) (ha : SA X T W (e :: es) fa) (hg : Gl X x := by rfl) (hdb : (x == ("__debug__" : Str)) = false := by decide)
    (he : starEach (e :: es) X.env = (false, eval e X.env) :: starEach es X.env := by rfl) (hpl : (backTo pos (starEach es X.env)).any (·.1) = false := by rfl) : SE X T W (.Call (.Name x p) (e :: es) [] pos) (cCall φ dds fa) := by
  obtain ⟨fd, ps, dvs, ds, F1, hb, hd, dfl⟩ := F.ex
  refine PE.weak (pe_callG F1 hr hg hm F.kp hb hd (fun σ => passAt tk σ) ha hdb he hpl) fun σ H Q ⟨G, B, Z, env, E, q⟩ => ?_
  exact useAR E q fun vs H1 Z1 e as s E1 r q1 => call_sp dfl E1 r q1
def cMeth (c : Nat) (φ : Fn) (dds : List D) (f : Env' → R) (fa : Env' → RA) : Env' → R := fun env => (f env).bind fun d e => match d with
  | .obj c' xs => if c' = c then (fa e).bind fun as e' => callR φ dds (.d (.obj c' xs) :: as) e' else .no
  | _ => .no
def makeR (c nf : Nat) (φ : Fn) (dds : List D) (avs : List AV) (e : Env') : R := match avD avs with
  | some ds => (match φ (.own true (.s c []) :: (ds.map .val ++ dds.map .val)) with
    | .ok (.d .non) outs => (match outs.lookup 0 with | some (.s c' xs) => if c' = c ∧ xs.length = nf then .ok (.d (.obj c xs)) e else .no | _ => .no)
    | .ok _ _ => .no
    | .ex x _ => .ex x e
    | .no => .no)
  | none => .no
def cMake (c nf : Nat) (φ : Fn) (dds : List D) (fa : Env' → RA) : Env' → R := fun env => (fa env).bind fun as e => makeR c nf φ dds as e
def cFld (al : List (Nat × Nat)) (f : Env' → R) : Env' → R := fun env => (f env).bind fun d e => match d with
  | .obj c xs => (match al.lookup c with | some k => (match xs[k]? with | some y => .ok (.d y) e | none => .no) | none => .no)
  | _ => .no
def FldF (K : PySem.W.Frag) (T : Tb) (al : List (Nat × Nat)) (n : Str) : Prop := ∀ c k, al.lookup c = some k → ClsF K T c ∧ (T.fl c)[k]? = some n
def cSfld (i c k : Nat) : Env' → R := fun e => match e[i]? with | some (.own true (.s c' xs)) => if c' = c then (match xs[k]? with | some y => .ok (.d y) e | none => .no) else .no | _ => .no
def sFld0 (i c k : Nat) (f : Env' → R) : Env' → RS := fun env => (f env).bindS fun d e => match e[i]? with
  | some (.own true (.s c' xs)) => if c' = c ∧ xs.length = k then .nx (e.set i (.own true (.s c (xs ++ [d])))) else .no
  | _ => .no
theorem EOk.mut {G : Gd} {B : List (Nat × Addr)} {Z H : Hp} {σ : St} {env : Env'} {i : Nat} {b : Bool} {o o' : OB} {pa : Addr} {h' : HO} (E : EOk T G B Z H σ env) (h : env[i]? = some (.own b o)) (hσ : σ[i]? = some (some (.ref pa))) (r : ORep T Z h' o') :
    EOk T G B Z (upd H pa h') σ (env.set i (.own b o')) := by
  have hi : i < env.length := (List.getElem?_eq_some_iff.mp h).1
  obtain ⟨a, ho, e1, e2, e3, e4, e5⟩ := E.own i b o h
  rw [hσ] at e1
  cases e1
  have own_ : ∀ j q, Own σ (env.set i (.own b o')) j q → Own σ env j q := fun j q ⟨⟨b1, o1, q1⟩, q2⟩ => by
    by_cases hj : i = j
    · subst hj; exact ⟨⟨b, o, h⟩, q2⟩
    · rw [List.getElem?_set_ne hj] at q1; exact ⟨⟨b1, o1, q1⟩, q2⟩
  refine ⟨by rw [List.length_set]; exact E.len, fun q u hq => ?_, E.nof, fun q u hq n => ?_, fun j d q => ?_, fun j b1 o1 q => ?_, fun j q hq => ?_, fun j l q n o1 o2 => E.dis j l q n (own_ j q o1) (own_ l q o2)⟩
  · rw [upd_ne (ne_of_none hq e4)]; exact E.sub q u hq
  · rw [upd_ne fun z => ?_]
    · exact E.keep q u hq n
    · subst z
      rcases e5 with ⟨_, z⟩ | ⟨_, z⟩
      · exact n i z
      · rw [hq] at z; cases z
  · by_cases hj : i = j
    · subst hj; rw [List.getElem?_set_self hi] at q; cases q
    · rw [List.getElem?_set_ne hj] at q; exact E.val j d q
  · by_cases hj : i = j
    · subst hj
      rw [List.getElem?_set_self hi] at q
      cases q
      exact ⟨pa, h', hσ, upd_same, r, e4, e5⟩
    · rw [List.getElem?_set_ne hj] at q
      obtain ⟨a1, h1, k1, k2, k3⟩ := E.own j b1 o1 q
      refine ⟨a1, h1, k1, ?_, k3⟩
      rw [upd_ne fun z => E.dis i j pa hj ⟨⟨_, _, h⟩, hσ⟩ ⟨⟨_, _, q⟩, by rw [← z]; exact k1⟩]
      exact k2
  · obtain ⟨⟨o1, q1⟩, q2⟩ := E.bor j q hq
    by_cases hj : i = j
    · subst hj
      rw [h] at q1
      cases q1
      exact ⟨⟨o', List.getElem?_set_self hi⟩, q2⟩
    · exact ⟨⟨o1, by rw [List.getElem?_set_ne hj]; exact q1⟩, q2⟩
end
end L2.S

set_option Elab.async false
set_option linter.all false
set_option maxRecDepth 100000
set_option maxHeartbeats 4000000
namespace L2.S
open PySem PySem.Spec PyProof.Rows TL
section
variable {X : Cx} {T : Tb} {W : WX} {a b c e : Expr} {es : List Expr} {f g : Env' → R} {fa : Env' → RA} {pos p apos : Pos}
def ixD : D → D → Option D
  | .tup xs, .int i => atI xs i
  | .lst xs, .int i => atI xs i
  | .ro xs, .int i => atI xs i
  | .str l, .int i => if l.length ≤ 16777216 then (atI l i).map fun c => .str [c] else none
  | _, _ => none
theorem reps_at {Z : Hp} {vs : List V} {ds : List D} {i : Int} {d : D} (r : Reps T Z vs ds) (h : atI ds i = some d) : ∃ v, atI vs i = some v ∧ Rep T Z v d := by
  unfold atI at h ⊢
  rw [r.length]
  cases q : ixN ds.length i with
  | none => rw [q] at h; cases h
  | some j =>
    rw [q] at h
    obtain ⟨v, h1, h2⟩ := r.get h
    exact ⟨v, h1, h2⟩
theorem ix_go (hT : X.K = T.K) {Z H : Hp} {x y : V} {dx dy d : D} {Q : VK} (s : Same Z H) (r1 : Rep T Z x dx) (r2 : Rep T Z y dy) (h : ixD dx dy = some d) (k : ∀ v, Rep T Z v d → Q v H) : rIx X.K x y H Q := by
  cases r2 with
  | int i =>
    cases r1 with
    | tup hq rs =>
      obtain ⟨v, h1, h2⟩ := reps_at rs h
      exact .inr (.inl ⟨_, _, i, v, rfl, rfl, by rw [hT]; exact sqt_mono s hq, h1, k v h2⟩)
    | lst hq rs =>
      obtain ⟨v, h1, h2⟩ := reps_at rs h
      exact .inl ⟨_, _, i, v, rfl, rfl, SqL.of (s _ _ hq), h1, k v h2⟩
    | ro hq rs =>
      obtain ⟨v, h1, h2⟩ := reps_at rs h
      exact .inl ⟨_, _, i, v, rfl, rfl, by rw [hT]; exact s.seq hq, h1, k v h2⟩
    | str l =>
      have h' : (if l.length ≤ 16777216 then (atI l i).map fun c => D.str [c] else none) = some d := h
      split at h'
      · rename_i hl
        cases q : atI l i with
        | none => rw [q] at h'; cases h'
        | some c =>
          rw [q] at h'
          cases h'
          exact .inr (.inr ⟨_, i, c, rfl, rfl, by rw [SZ_eq]; exact hl, q, k _ (.str [c])⟩)
      · cases h'
    | _ => cases h
  | _ => cases r1 <;> cases h
def cIx (f g : Env' → R) : Env' → R := two (fun x y e => match ixD x y with | some d => .ok (.d d) e | none => .no) f g
theorem se_ix (hT : X.K = T.K) (ha : SE X T W a f) (hb : SE X T W b g) (hs : PlainIx b := by exact fun _ _ => rfl) : SE X T W (.Subscript a b pos) (cIx f g) := by
  refine PE.weak (pe_ix ix_seq ha hb hs) fun σ H Q q => ?_
  have q' := two_tX q
  obtain ⟨G, B, Z, env, E, q2⟩ := q
  refine useR E q2 fun x H1 Z1 e1 dx s1 E1 r1 q3 => useR E1 q3 fun y H2 Z2 e2 dy s2 E2 r2 q4 => ?_
  dsimp only at q4
  cases h : ixD dx dy with
  | none => rw [h] at q4; exact q4.elim
  | some d =>
    rw [h] at q4
    exact ix_go hT E2.sub (r1.mono s2) r2 h fun v r => q4 v H2 Z2 (Same.refl _) E2 r
def withO (i : Nat) (env : Env') (r : R) : R := match env[i]? with | some (.own _ (.l _)) => r | _ => .no
theorem use_own {G : Gd} {B : List (Nat × Addr)} {Z H : Hp} {σ : St} {env : Env'} {i : Nat} {r : R} {Q : VK} (E : EOk T G B Z H σ env) (q : PR T W G B Z σ Q (withO i env r)) :
    ∃ pa b xs vs, env[i]? = some (.own b (.l xs)) ∧ σ[i]? = some (some (.ref pa)) ∧ H pa = some (.lst vs) ∧ Reps T Z vs xs ∧ PR T W G B Z σ Q r := by
  unfold withO at q
  split at q
  · rename_i b xs h
    obtain ⟨pa, ho, h1, h2, ⟨vs, rfl, h4⟩, _⟩ := E.own i b _ h
    exact ⟨pa, b, xs, vs, h, h1, h2, h4, q⟩
  · exact q.elim
def cIxO (i : Nat) (g : Env' → R) : Env' → R := fun env => withO i env ((g env).bind fun d e => match e[i]?, d with
  | some (.own _ (.l xs)), .int j => (match atI xs j with | some y => .ok (.d y) e | none => .no)
  | _, _ => .no)
theorem se_ixO (i : Nat) {x : Str} {p1 : Pos} (hb : SE X T W b g) (hN : X.N[i]? = some x := by rfl) (hv : Vis X.env.scope x := by first | exact Or.inl rfl | exact Or.inr (Or.inl rfl) | exact Or.inr (Or.inr rfl)) (hd : (x == ("__debug__" : Str)) = false := by decide)
    (hcd : (x == ("__classdict__" : Str)) = false := by decide) (hs : PlainIx b := by exact fun _ _ => rfl) : SE X T W (.Subscript (.Name x p1) b pos) (cIxO i g) := by
  refine PE.weak (pe_ix ix_list (pe_var hN hv hd hcd) hb hs) fun σ H Q ⟨G, B, Z, env, E, q⟩ => ?_
  obtain ⟨pa, b, xs, vs, h, h1, h2, h4, q⟩ := use_own E q
  refine ⟨_, h1, useR E q fun y H1 Z1 e1 dy s1 E1 r1 q1 => ?_⟩
  split at q1
  · rename_i _ _ b xs j h
    cases r1
    obtain ⟨pa', ho, k1, k2, ⟨vs, rfl, k4⟩, _⟩ := E1.own i b _ h
    rw [h1] at k1
    cases k1
    cases hy : atI xs j with
    | none => rw [hy] at q1; exact q1.elim
    | some y =>
      rw [hy] at q1
      obtain ⟨w, j1, j2⟩ := reps_at k4 hy
      exact ⟨_, _, _, w, rfl, rfl, SqL.of k2, j1, q1 w H1 Z1 (Same.refl _) E1 j2⟩
  · exact q1.elim

inductive RO where
  | ok (o : Option Int) (e : Env') | ex (x : Ex) (e : Env') | no
def PRO (T : Tb) (W : WX) (G : Gd) (B : List (Nat × Addr)) (Z : Hp) (σ : St) (Q : Option Int → Hp → Prop) : RO → Prop
  | .ok o e => ∀ H' Z', Same Z Z' → EOk T G B Z' H' σ e → Q o H'
  | .ex x e => ∀ cls d H' Z', Same Z Z' → EOk T G B Z' H' σ e → XRep T Z' H' cls d x → W cls d σ H'
  | .no => False
def tXO (T : Tb) (W : WX) (f : Env' → RO) : TO := fun σ H Q => ∃ G B Z env, EOk T G B Z H σ env ∧ PRO T W G B Z σ Q (f env)
def SO (X : Cx) (T : Tb) (W : WX) (e : Option Expr) (f : Env' → RO) : Prop := PO X e (tXO T W f)
theorem PO.weak {e : Option Expr} {t t' : TO} (h : PO X e t) (w : ∀ σ H Q, t' σ H Q → t σ H Q) : PO X e t' := ⟨fun pins s σ H Q I q => h.run pins s σ H Q I (w _ _ _ q)⟩
def o0 : Env' → RO := fun e => .ok none e
def oI (f : Env' → R) : Env' → RO := fun env => match f env with
  | .ok (.d (.int i)) e => .ok (some i) e
  | .ex x e => .ex x e
  | _ => .no
theorem so_0 : SO X T W none o0 := PO.weak po_none fun σ H Q ⟨G, B, Z, env, E, q⟩ => q H Z (Same.refl _) E
theorem so_i (h : SE X T W a f) : SO X T W (some a) (oI f) := by
  refine PO.weak (po_some h) fun σ H Q ⟨G, B, Z, env, E, q⟩ => ?_
  refine use (Same.refl _) E (fun r e hf v H' Z' s E' r' => ?_) (fun x e hf => ?_) (fun hf => ?_)
  · unfold oI at q
    rw [hf] at q
    cases r with
    | o o => exact q.elim
    | d d =>
      cases d with
      | int i => cases r'; exact ⟨i, rfl, q H' Z' s E'⟩
      | _ => exact q.elim
  · unfold oI at q
    rw [hf] at q
    exact q
  · unfold oI at q
    rw [hf] at q
    exact q.elim
def RO.bind (r : RO) (k : Option Int → Env' → R) : R := match r with
  | .ok o e => k o e
  | .ex x e => .ex x e
  | .no => .no
theorem useO {fo : Env' → RO} {G : Gd} {B : List (Nat × Addr)} {Z H : Hp} {σ : St} {env : Env'} {P : Option Int → Hp → Prop} {Q : VK} {k : Option Int → Env' → R} (E : EOk T G B Z H σ env) (h : PR T W G B Z σ Q ((fo env).bind k))
    (go : ∀ o H1 Z1 e, Same Z Z1 → EOk T G B Z1 H1 σ e → PR T W G B Z1 σ Q (k o e) → P o H1) : tXO T W fo σ H P := by
  refine ⟨G, B, Z, env, E, ?_⟩
  cases q : fo env with
  | ok o e =>
    rw [q] at h
    exact fun H' Z' s E' => go o H' Z' e s E' (PR.mono s (r := k o e) h)
  | ex x e => rw [q] at h; exact h
  | no => rw [q] at h; exact h.elim
def cut {α : Type} (xs : List α) (lo hi : Option Int) : List α := (xs.drop (HT.sIx xs.length 0 lo)).take (HT.sIx xs.length xs.length hi - HT.sIx xs.length 0 lo)
def slD : D → Option Int → Option Int → Option RV
  | .tup xs, lo, hi => some (.d (.tup (cut xs lo hi)))
  | .lst xs, lo, hi => some (.o (.l (cut xs lo hi)))
  | .ro xs, lo, hi => some (.o (.l (cut xs lo hi)))
  | .str l, lo, hi => if l.length ≤ 16777216 then some (.d (.str (cut l lo hi))) else none
  | _, _, _ => none
theorem cut_reps {Z : Hp} {vs : List V} {ds : List D} (r : Reps T Z vs ds) (lo hi : Option Int) : Reps T Z (cutV vs lo hi) (cut ds lo hi) := by
  unfold cutV cut
  rw [r.length]
  exact (r.drop _).take _
theorem sl_seq : SlR X (fun x lo hi H Q => rSlA X.K x lo hi H Q ∨ rSlL X.K x lo hi H Q ∨ rSlS x lo hi H Q) := sl_tupA.or (sl_list.or sl_str)
theorem sl_go (hT : X.K = T.K) {G : Gd} {B : List (Nat × Addr)} {Z H : Hp} {σ : St} {env : Env'} {x : V} {d : D} {r : RV} {lo hi : Option Int} {Q : VK} (E : EOk T G B Z H σ env) (r1 : Rep T Z x d) (h : slD d lo hi = some r)
    (k : ∀ v H' Z', Same Z Z' → EOk T G B Z' H' σ env → RRep T G Z' H' σ env v r → Q v H') : rSlA X.K x lo hi H Q ∨ rSlL X.K x lo hi H Q ∨ rSlS x lo hi H Q := by
  cases r1 with
  | @tup a vs ds hq rs =>
    cases h
    refine .inl ⟨_, _, rfl, by rw [hT]; exact sqt_mono E.sub hq, fun hw => ?_, fun _ p hp => ?_⟩
    · refine k _ H Z (Same.refl _) E ?_
      have e : cut ds lo hi = ds := by
        rw [rs.length] at hw
        unfold cut
        rw [hw.1, hw.2]
        simp
      rw [e]
      exact .tup hq rs
    · obtain ⟨s, E', r'⟩ := new_tup E hp (cut_reps rs lo hi)
      exact k _ _ _ s E' r'
  | lst hq rs =>
    cases h
    refine .inr (.inl ⟨_, _, rfl, SqL.of (E.sub _ _ hq), fun p hp => ?_⟩)
    obtain ⟨E', r'⟩ := new_list E hp (cut_reps rs lo hi)
    exact k _ _ _ (Same.refl _) E' r'
  | ro hq rs =>
    cases h
    refine .inr (.inl ⟨_, _, rfl, by rw [hT]; exact E.sub.seq hq, fun p hp => ?_⟩)
    obtain ⟨E', r'⟩ := new_list E hp (cut_reps rs lo hi)
    exact k _ _ _ (Same.refl _) E' r'
  | str l =>
    have h' : (if l.length ≤ 16777216 then some (RV.d (.str (cut l lo hi))) else none) = some r := h
    split at h'
    · rename_i hl
      cases h'
      exact .inr (.inr ⟨_, rfl, by rw [SZ_eq]; exact hl, k _ H Z (Same.refl _) E (.str _)⟩)
    · cases h'
  | _ => cases h
def cSl (f : Env' → R) (lo hi : Env' → RO) : Env' → R := fun env => (f env).bind fun d e => (lo e).bind fun l e1 => (hi e1).bind fun u e2 => match slD d l u with | some r => .ok r e2 | none => .no
theorem se_sl {lo hi : Option Expr} {fl fh : Env' → RO} {p2 : Pos} (hT : X.K = T.K) (ha : SE X T W a f) (hl : SO X T W lo fl) (hh : SO X T W hi fh) : SE X T W (.Subscript a (.Slice lo hi none p2) pos) (cSl f fl fh) := by
  refine PE.weak (pe_slice sl_seq ha hl hh) fun σ H Q ⟨G, B, Z, env, E, q⟩ => ?_
  refine useR E q fun x H1 Z1 e1 d s1 E1 r1 q1 => useO E1 q1 fun l H2 Z2 e2 s2 E2 q2 => useO E2 q2 fun u H3 Z3 e3 s3 E3 q3 => ?_
  cases h : slD d l u with
  | none => rw [h] at q3; exact q3.elim
  | some r =>
    rw [h] at q3
    exact sl_go hT E3 (r1.mono (s2.trans s3)) h fun v H' Z' s E' rr => q3 v H' Z' s E' rr
def cSlO (i : Nat) (lo hi : Env' → RO) : Env' → R := fun env => withO i env ((lo env).bind fun l e1 => (hi e1).bind fun u e2 => match e2[i]? with | some (.own _ (.l xs)) => .ok (.o (.l (cut xs l u))) e2 | _ => .no)
def cRv (f : Env' → R) : Env' → R := fun env => (f env).bind fun d e => match d with | .lst xs => .ok (.o (.l xs.reverse)) e | .ro xs => .ok (.o (.l xs.reverse)) e | _ => .no
def BI (X : Cx) (T : Tb) (fv : Value) (p : List D → Option RV) : Prop :=
  ∀ (pins : List (Addr × Obj)) (s : Shared) (σ : St) (H : Hp) (xs : List V) (us : List Value) (Q : VK) (G : Gd) (B : List (Nat × Addr)) (Z : Hp) (env : Env') (ds : List D) (r : RV),
    Inv X pins σ H s → Vals xs us → EOk T G B Z H σ env → Reps T Z xs ds → p ds = some r →
    (∀ v H' Z', Same Z Z' → EOk T G B Z' H' σ env → RRep T G Z' H' σ env v r → Q v H') → wpAny (model X.prog X.w) X.A (call fv us) (EP X pins σ Q) X.xe s
theorem BI.of {fv : Value} {p : List D → Option RV} {r : List V → Hp → VK → Prop} (ho : CallR X fv r)
    (h : ∀ (G : Gd) (B : List (Nat × Addr)) (Z H : Hp) (σ : St) (env : Env') (xs : List V) (ds : List D) (w : RV) (Q : VK), EOk T G B Z H σ env → Reps T Z xs ds → p ds = some w →
      (∀ v H' Z', Same Z Z' → EOk T G B Z' H' σ env → RRep T G Z' H' σ env v w → Q v H') → r xs H Q) : BI X T fv p :=
  fun pins s σ H xs us Q G B Z env ds w I rv E rs e c => ho pins s σ H xs us Q I rv (h G B Z H σ env xs ds w Q E rs e c)
def orB (p q : List D → Option RV) : List D → Option RV := fun x => match p x with | some r => some r | none => q x
theorem BI.or {fv : Value} {p q : List D → Option RV} (h : BI X T fv p) (k : BI X T fv q) : BI X T fv (orB p q) := by
  intro pins s σ H xs us Q G B Z env ds r I rv E rs e c
  unfold orB at e
  cases z : p ds with
  | some w =>
    rw [z] at e; cases e
    exact h pins s σ H xs us Q G B Z env ds r I rv E rs z c
  | none =>
    rw [z] at e
    exact k pins s σ H xs us Q G B Z env ds r I rv E rs e c
def cBi (p : List D → Option RV) (fa : Env' → RA) : Env' → R := fun env => (fa env).bind fun as e => match avD as with | some ds => (match p ds with | some r => .ok r e | none => .no) | none => .no
theorem bi_go {fv : Value} {pp : List D → Option RV} (hb : BI X T fv pp) {pins : List (Addr × Obj)} {s : Shared} {σ : St} {H : Hp} {Q : VK} {vs : List V} {us : List Value} (I : Inv X pins σ H s) (rv : Vals vs us)
    (h : ∃ G B Z env as, EOk T G B Z H σ env ∧ AVOk T Z σ vs as ∧ PR T W G B Z σ Q (match avD as with | some ds => (match pp ds with | some r => .ok r env | none => .no) | none => .no)) : wpAny (model X.prog X.w) X.A (call fv us) (EP X pins σ Q) X.xe s := by
  obtain ⟨G, B, Z, env, as, E, r, q⟩ := h
  cases hd : avD as with
  | none => rw [hd] at q; exact q.elim
  | some ds =>
    rw [hd] at q
    dsimp only at q
    cases hp : pp ds with
    | none => rw [hp] at q; exact q.elim
    | some w =>
      rw [hp] at q
      exact hb pins s σ H vs us Q G B Z env ds w I rv E (r.reps hd) hp q
theorem se_bif {x : Str} {id : String} {pp : List D → Option RV} (hb : BI X T (.builtin id) pp) (hm : X.mg x = none) (ha : SA X T W (e :: es) fa) (hg : Gl X x := by rfl) (hv : bootBuiltins x = some (.builtin id) := by decide +kernel) (hn : x ≠ "__name__" := by decide) (hdb : (x == ("__debug__" : Str)) = false := by decide)
    (he : starEach (e :: es) X.env = (false, eval e X.env) :: starEach es X.env := by rfl) (hpl : (backTo pos (starEach es X.env)).any (·.1) = false := by rfl) : SE X T W (.Call (.Name x p) (e :: es) [] pos) (cBi pp fa) := by
  refine ⟨fun pins s σ H Q I ⟨G, B, Z, env, E, q⟩ => ?_⟩
  refine wpAny_Call_Name_kw (ld_blt I hg hm hv ?_ hn hdb)
  have key : tXA T W fa σ H fun vs H1 => ∃ G B Z env as, EOk T G B Z H1 σ env ∧ AVOk T Z σ vs as ∧ PR T W G B Z σ Q (match avD as with | some ds => (match pp ds with | some r => .ok r env | none => .no) | none => .no) :=
    useAR E q fun vs H1 Z1 e as s E1 r q1 => ⟨G, B, Z1, e, as, E1, r, q1⟩
  exact PyProof.Rows.callWith_builtin1 (thn (ha.run pos pins s σ H _ I key) fun us s1 ⟨vs, H1, I1, r1, q1⟩ => bi_go hb I1 r1 q1) he hpl
theorem se_bit {x : Str} {id : String} {pp : List D → Option RV} (hb : BI X T (.type id) pp) (hm : X.mg x = none) (ha : SA X T W (e :: es) fa) (hg : Gl X x := by rfl) (hv : bootBuiltins x = some (.type id) := by decide +kernel) (hn : x ≠ "__name__" := by decide) (hdb : (x == ("__debug__" : Str)) = false := by decide)
    (he : starEach (e :: es) X.env = (false, eval e X.env) :: starEach es X.env := by rfl) (hpl : (backTo pos (starEach es X.env)).any (·.1) = false := by rfl) : SE X T W (.Call (.Name x p) (e :: es) [] pos) (cBi pp fa) := by
  refine ⟨fun pins s σ H Q I ⟨G, B, Z, env, E, q⟩ => ?_⟩
  refine wpAny_Call_Name_kw (ld_blt I hg hm hv ?_ hn hdb)
  have key : tXA T W fa σ H fun vs H1 => ∃ G B Z env as, EOk T G B Z H1 σ env ∧ AVOk T Z σ vs as ∧ PR T W G B Z σ Q (match avD as with | some ds => (match pp ds with | some r => .ok r env | none => .no) | none => .no) :=
    useAR E q fun vs H1 Z1 e as s E1 r q1 => ⟨G, B, Z1, e, as, E1, r, q1⟩
  exact PyProof.Rows.callWith_type1 (thn (ha.run pos pins s σ H _ I key) fun us s1 ⟨vs, H1, I1, r1, q1⟩ => bi_go hb I1 r1 q1) he hpl
def bLen : List D → Option RV
  | [.str l] => if l.length ≤ 16777216 then some (.d (.int l.length)) else none
  | [.tup xs] => some (.d (.int xs.length))
  | [.lst xs] => some (.d (.int xs.length))
  | [.ro xs] => some (.d (.int xs.length))
  | _ => none
theorem Reps.one {Z : Hp} {xs : List V} {d : D} (r : Reps T Z xs [d]) : ∃ x, xs = [x] ∧ Rep T Z x d := by
  cases r with
  | cons h r => cases r; exact ⟨_, rfl, h⟩
theorem Reps.two {Z : Hp} {xs : List V} {d d' : D} (r : Reps T Z xs [d, d']) : ∃ x y, xs = [x, y] ∧ Rep T Z x d ∧ Rep T Z y d' := by
  cases r with
  | cons h r => obtain ⟨y, e, h2⟩ := Reps.one r; subst e; exact ⟨_, _, rfl, h, h2⟩
theorem b_len (hT : X.K = T.K) : BI X T (.builtin "len") bLen := BI.of call_len fun G B Z H σ env xs ds w Q E rs e c => by
  unfold bLen at e
  split at e
  · split at e
    · rename_i l hl
      cases e
      obtain ⟨x, rfl, r⟩ := rs.one
      cases r
      exact ⟨_, l.length, rfl, ⟨by rw [SZ_eq]; exact hl, rfl⟩, c _ H Z (Same.refl _) E (.int _)⟩
    · cases e
  · cases e
    obtain ⟨x, rfl, r⟩ := rs.one
    cases r with
    | tup hq rr => exact ⟨_, _, rfl, .inr ⟨_, by rw [hT]; exact sqt_mono E.sub hq, rr.length.symm⟩, c _ H Z (Same.refl _) E (.int _)⟩
  · cases e
    obtain ⟨x, rfl, r⟩ := rs.one
    cases r with
    | lst hq rr => exact ⟨_, _, rfl, .inl ⟨_, SqL.of (E.sub _ _ hq), rr.length.symm⟩, c _ H Z (Same.refl _) E (.int _)⟩
  · cases e
    obtain ⟨x, rfl, r⟩ := rs.one
    cases r with
    | ro hq rr => exact ⟨_, _, rfl, .inl ⟨_, by rw [hT]; exact E.sub.seq hq, rr.length.symm⟩, c _ H Z (Same.refl _) E (.int _)⟩
  · cases e
def bInt : List D → Option RV
  | [.int i] => some (.d (.int i))
  | [.bl b] => some (.d (.int (if b then 1 else 0)))
  | _ => none
theorem b_int : BI X T (.type "int") bInt := BI.of call_int1 fun G B Z H σ env xs ds w Q E rs e c => by
  unfold bInt at e
  split at e
  · cases e
    obtain ⟨x, rfl, r⟩ := rs.one
    cases r
    exact .inl ⟨_, rfl, c _ H Z (Same.refl _) E (.int _)⟩
  · cases e
    obtain ⟨x, rfl, r⟩ := rs.one
    cases r
    exact .inr ⟨_, rfl, c _ H Z (Same.refl _) E (.int _)⟩
  · cases e
def bAbs : List D → Option RV
  | [.int i] => some (.d (.int (if i < 0 then -i else i)))
  | _ => none
theorem b_abs : BI X T (.builtin "abs") bAbs := BI.of call_abs fun G B Z H σ env xs ds w Q E rs e c => by
  unfold bAbs at e
  split at e
  · cases e
    obtain ⟨x, rfl, r⟩ := rs.one
    cases r
    exact ⟨_, rfl, c _ H Z (Same.refl _) E (.int _)⟩
  · cases e
def bGcd : List D → Option RV
  | [.int i, .int j] => some (.d (.int ((Nat.gcd i.natAbs j.natAbs : Nat) : Int)))
  | _ => none
def bTup : List D → Option RV
  | [.tup xs] => some (.d (.tup xs))
  | [.lst xs] => some (.d (.tup xs))
  | [.ro xs] => some (.d (.tup xs))
  | _ => none
theorem b_tup (hT : X.K = T.K) : BI X T (.type "tuple") bTup := BI.of call_tuple_of fun G B Z H σ env xs ds w Q E rs e c => by
  unfold bTup at e
  split at e
  · cases e
    obtain ⟨x, rfl, r⟩ := rs.one
    cases r with
    | tup hq rr => exact ⟨_, _, rfl, .inr ⟨by rw [hT]; exact sqt_mono E.sub hq, c _ H Z (Same.refl _) E (.tup hq rr)⟩⟩
  · cases e
    obtain ⟨x, rfl, r⟩ := rs.one
    cases r with
    | lst hq rr =>
      refine ⟨_, _, rfl, .inl ⟨SqL.of (E.sub _ _ hq), fun p hp => ?_⟩⟩
      obtain ⟨s, E', r'⟩ := new_tup E hp rr
      exact c _ _ _ s E' r'
  · cases e
    obtain ⟨x, rfl, r⟩ := rs.one
    cases r with
    | ro hq rr =>
      refine ⟨_, _, rfl, .inl ⟨by rw [hT]; exact E.sub.seq hq, fun p hp => ?_⟩⟩
      obtain ⟨s, E', r'⟩ := new_tup E hp rr
      exact c _ _ _ s E' r'
  · cases e
def bLst : List D → Option RV
  | [.tup xs] => some (.o (.l xs))
  | [.lst xs] => some (.o (.l xs))
  | [.ro xs] => some (.o (.l xs))
  | _ => none
def codes (s : String) : List Nat := s.toList.map Char.toNat
def bStr : List D → Option RV
  | [.int i] => if i.natAbs.log2 < 1920 then some (.d (.str (codes (toString i)))) else none
  | _ => none
def cLenO (i : Nat) : Env' → R := fun e => match e[i]? with | some (.own _ (.l xs)) => .ok (.d (.int xs.length)) e | _ => .no
def cApp (i : Nat) (f : Env' → R) : Env' → R := fun env => withO i env ((f env).bind fun d e => match e[i]? with
  | some (.own b (.l xs)) => if xs.length < 16777216 then .ok (.d .non) (e.set i (.own b (.l (xs ++ [d])))) else .no
  | _ => .no)
theorem se_app (i : Nat) {x : Str} {p1 ap : Pos} (hf : SE X T W e f) (hN : X.N[i]? = some x := by rfl) (hv : Vis X.env.scope x := by first | exact Or.inl rfl | exact Or.inr (Or.inl rfl) | exact Or.inr (Or.inr rfl)) (hd : (x == ("__debug__" : Str)) = false := by decide)
    (hcd : (x == ("__classdict__" : Str)) = false := by decide)
    (hbase : attributeBase (.Name x p1) "append" X.env (eval (.Name x p1) X.env) = eval (.Name x p1) X.env := by rfl)
    (hfew : ((backTo pos (starEach [e] X.env)).all (fun x => !x.1) && (backToKw pos (keywordEach [] X.env)).all (fun x => x.1.isSome)
      && decide ([e].length + ([] : List Keyword).length + (if ([] : List Keyword).isEmpty then 0 else 1) < 30)) = true := by rfl)
    (hline : (ap.endLine == pos.line) = true := by rfl) (hs : starEach [e] X.env = (false, eval e X.env) :: starEach [] X.env := by rfl) :
    SE X T W (.Call (.Attribute (.Name x p1) "append" ap) [e] [] pos) (cApp i f) := by
  refine PE.weak (pe_bm PySem.F.plainAttrs_list PySem.F.slot_list_append PySem.F.type_list_append mt_append (pe_var hN hv hd hcd) (pa_cons hf pa_nil hs) hbase hfew hline hs) fun σ H Q ⟨G, B, Z, env, E, q⟩ => ?_
  obtain ⟨pa, b, xs, vs, h, h1, h2, h4, q⟩ := use_own E q
  refine ⟨_, h1, .inl ⟨rfl, _, SqL.of h2⟩, useR E q fun v H1 Z1 e1 d s1 E1 r1 q1 => ?_⟩
  split at q1
  · rename_i b xs h
    obtain ⟨pa', ho, k1, k2, ⟨vs, rfl, k4⟩, _⟩ := E1.own i b _ h
    rw [h1] at k1
    cases k1
    by_cases hl : xs.length < 16777216
    · rw [if_pos hl] at q1
      refine ⟨_, vs, v, rfl, rfl, k2, by rw [k4.length, SZ_eq]; exact hl, ?_⟩
      exact q1 _ _ Z1 (Same.refl _) (E1.mut h h1 ⟨vs ++ [v], rfl, k4.append (.cons r1 .nil)⟩) .non
    · rw [if_neg hl] at q1; exact q1.elim
  · exact q1.elim
def sSub (i : Nat) (fv fi : Env' → R) : Env' → RS := fun env => (fv env).bindS fun d e => match e[i]? with
  | some (.own _ (.l _)) => (fi e).bindS fun j e1 => (match e1[i]?, j with
    | some (.own b (.l xs)), .int k => (match ixN xs.length k with | some j => .nx (e1.set i (.own b (.l (xs.set j d)))) | none => .no)
    | _, _ => .no)
  | _ => .no
theorem ss_sub (i : Nat) {x : Str} {p1 p2 : Pos} {ei : Expr} {fi : Env' → R} (hf : SE X T W e f) (hi : SE X T W ei fi) (hN : X.N[i]? = some x := by rfl) (hv : Vis X.env.scope x := by first | exact Or.inl rfl | exact Or.inr (Or.inl rfl) | exact Or.inr (Or.inr rfl)) (hd : (x == ("__debug__" : Str)) = false := by decide)
    (hcd : (x == ("__classdict__" : Str)) = false := by decide)
    (ha : ∀ v, assign (.Subscript (.Name x p1) ei p2) X.env v = (do
      let ov ← holding [v] (eval (.Name x p1) X.env)
      let iv ← holding [v, ov] (eval ei X.env)
      standAt p2
      holding [v, ov, iv] (setItem ov iv v)
      release [v, ov, iv] []) := by intro _; rfl)
    (hs : swapsWithSole [.Subscript (.Name x p1) ei p2] e pos.line X.env = pure false := by rfl) (hw : swappedStores [.Subscript (.Name x p1) ei p2] e X.env = pure none := by rfl)
    (h1 : (assignEach [.Subscript (.Name x p1) ei p2] X.env).map (·.2) = [assign (.Subscript (.Name x p1) ei p2) X.env] := by rfl) : SS X T W (.Assign [.Subscript (.Name x p1) ei p2] e pos) (sSub i f fi) := by
  refine PS.weak (ps_asg hf (pg_sub (pe_var hN hv hd hcd) hi set_list ha) hs hw h1) fun K σ H ⟨G, B, Z, env, E, q⟩ => ?_
  refine useS E q fun v H1 Z1 e1 d s1 E1 r1 q1 => ?_
  split at q1
  · rename_i b xs h
    obtain ⟨pa, ho, k1, k2, ⟨vs, rfl, k4⟩, _⟩ := E1.own i b _ h
    refine ⟨_, k1, useS E1 q1 fun w H2 Z2 e2 j s2 E2 r2 q2 => ?_⟩
    split at q2
    · rename_i b' xs' k h'
      cases r2
      obtain ⟨pa', ho', j1, j2, ⟨vs', rfl, j4⟩, _⟩ := E2.own i b' _ h'
      rw [k1] at j1
      cases j1
      cases hk : ixN xs'.length k with
      | none => rw [hk] at q2; exact q2.elim
      | some jj =>
        rw [hk] at q2
        exact ⟨_, vs', k, jj, rfl, rfl, j2, by rw [j4.length]; exact hk, q2 σ _ Z2 (Same.refl _) (E2.mut h' k1 ⟨_, rfl, j4.set (r1.mono s2) jj⟩)⟩
    · exact q2.elim
  · exact q1.elim
def cNeg (f : Env' → R) : Env' → R := fun env => (f env).bind fun d e => match d with | .int i => .ok (.d (.int (-i))) e | _ => .no
theorem se_neg (ha : SE X T W a f) : SE X T W (.UnaryOp .USub a pos) (cNeg f) := by
  refine PE.weak (pe_un un_neg ha) fun σ H Q ⟨G, B, Z, env, E, q⟩ => ?_
  refine useR E q fun v H1 Z1 e d s E1 r q1 => ?_
  cases r with
  | int i => exact ⟨i, rfl, q1 _ H1 Z1 (Same.refl _) E1 (.int _)⟩
  | _ => exact q1.elim
theorem se_glob {x : Str} {d : D} {v : V} {u : Value} (hm : X.mg x = some u) (r : RelV v u) (rr : ∀ Z, Rep T Z v d) (hg : Gl X x := by rfl) (hd : (x == ("__debug__" : Str)) = false := by decide) : SE X T W (.Name x pos) (cK d) := se_k (pe_glob hg hm r hd) rr
end
end L2.S

set_option Elab.async false
set_option linter.all false
set_option maxRecDepth 100000
set_option maxHeartbeats 4000000
namespace L2.S
open PySem PySem.Spec PyProof.Rows
section
open PySem.W Builtin
variable {prog : Program} {w : World} {A : Around} {E : Value → Shared → Prop} {s : Shared} {K : PySem.W.Frag} {x C f L : Addr} {h₀ : Heap} {m : Str → Option Value} {ox : Obj} {od : Option Obj} {b tb : Value}
def NeBack (Q : Value → Shared → Prop) (v : Value) (s' : Shared) : Prop := ∃ k, v = .bool k ∧ Q (.bool (!k)) s'
end
end L2.S

set_option Elab.async false
set_option linter.all false
set_option maxRecDepth 100000
set_option maxHeartbeats 4000000
namespace L2.S
open PySem PySem.Spec PyProof.Rows
section
variable {X : Cx} {T : Tb} {W : WX} {a b c e : Expr} {es : List Expr} {f g : Env' → R} {fa : Env' → RA} {pos p apos : Pos} {k : Nat} {φ : Fn} {x m : Str} {fx : Addr}
def OpE (X : Cx) (T : Tb) (W : WX) (sem : Value → Value → Sem Value) (p : D → D → Env' → R) : Prop :=
  ∀ (pins : List (Addr × Obj)) (s : Shared) (σ : St) (H : Hp) (x y : V) (v u : Value) (Q : VK) (G : Gd) (B : List (Nat × Addr)) (Z : Hp) (env : Env') (dx dy : D),
    Inv X pins σ H s → RelV x v → RelV y u → EOk T G B Z H σ env → Rep T Z x dx → Rep T Z y dy → PR T W G B Z σ Q (p dx dy env) → wpAny (model X.prog X.w) X.A (sem v u) (EP X pins σ Q) X.xe s
theorem OpE.of {sem : Value → Value → Sem Value} {p : D → D → Option RV} (ho : Op2 X T sem p) : OpE X T W sem (ofOp p) := by
  intro pins s σ H x y v u Q G B Z env dx dy I rx ry E r1 r2 h
  unfold ofOp at h
  cases q : p dx dy with
  | none => rw [q] at h; exact h.elim
  | some r =>
    rw [q] at h
    exact ho pins s σ H x y v u Q G B Z σ env dx dy r I rx ry E r1 r2 q h
structure OwnOp (X : Cx) (T : Tb) (c : Nat) (nm : Str) (φ : Fn) : Prop where
  ex : ∃ k fx, FnC X.prog X.w X.K X.mg X.base T k φ [] fx ∧ Room k X.A ∧ PySem.W.findIn X.K (.ref (T.cl c)) nm = some (some (.ref fx)) ∧ PySem.W.isFn X.K (.ref fx) = true
  sf : PySem.W.selfFirst X.K (T.cl c) = true
def OwnOps (X : Cx) (T : Tb) (nm : Str) (M : List (Nat × Fn)) : Prop := ∀ c φ, M.lookup c = some φ → OwnOp X T c nm φ
def pOwn (M : List (Nat × Fn)) (p : D → D → Option RV) : D → D → Env' → R := fun x y e => match x with
  | .obj c xs => (match y with
    | .obj c' ys => if c' = c then (match M.lookup c with | some φ => callR φ [] [.d (.obj c xs), .d (.obj c' ys)] e | none => .no) else .no
    | _ => .no)
  | _ => ofOp p x y e
theorem rep_obj {Z : Hp} {v : V} {c : Nat} {xs : List D} (r : Rep T Z v (.obj c xs)) : ∃ a dx vs, v = .ref a ∧ Z a = some (.ins (T.cl c) dx ((T.fl c).zip vs)) := by
  cases r with
  | @obj a dx vs _ _ h n rs => exact ⟨a, dx, vs, rfl, h⟩
def cNegM (M : List (Nat × Fn)) (f : Env' → R) : Env' → R := fun env => (f env).bind fun d e => match d with
  | .int i => .ok (.d (.int (-i))) e
  | .obj c xs => (match M.lookup c with | some φ => callR φ [] [.d (.obj c xs)] e | none => .no)
  | _ => .no
end
end L2.S

set_option Elab.async false
set_option linter.all false
set_option maxRecDepth 100000
set_option maxHeartbeats 4000000
namespace L2.S
open PySem PySem.Spec PyProof.Rows
section
variable {X : Cx} {T : Tb} {W : WX} {a b c e : Expr} {es : List Expr} {f g h : Env' → R} {fa : Env' → RA} {pos p apos : Pos} {k : Nat} {φ : Fn} {x m : Str} {fx : Addr}
def kd : D → Nat
  | .non => 0 | .bl _ => 1 | .int _ => 2 | .str _ => 3 | .tup _ => 4 | .lst _ => 5 | .ro _ => 5 | .obj c _ => 10 + c | _ => 6
def kTy (T : Tb) : Nat → Value
  | 0 => .type "NoneType" | 1 => .type "bool" | 2 => .type "int" | 3 => .type "str" | 4 => .type "tuple" | 5 => .type "list" | 6 => .none | 7 => .none | 8 => .none | 9 => .none | n + 10 => .ref (T.cl n)
structure ClsI (K : PySem.W.Frag) (T : Tb) (c : Nat) : Prop where
  ca : PySem.W.findIn K (.ref (T.cl c)) "__class__" = some (some (.builtin "object.__class__"))
  cn : PySem.W.specialIn K (.builtin "object.__class__") "__get__" = some (some (.builtin "getset_descriptor.__get__"))
  ct : PySem.W.takesIn K (.builtin "object.__class__") = some true
  cm : PySem.W.mroIn K (T.cl c) (.type "object") = some true
theorem ty_tup {K : PySem.W.Frag} {H : Hp} {a : Addr} {vs : List V} (q : SqT K H a vs) : TyX K H (.ref a) (.type "tuple") := by
  rcases q with (q | ⟨o, q⟩) | ⟨o, its, n, q, hc, _⟩
  · exact .base (.tup q)
  · exact .fTuple q
  · exact .kTuple q hc
theorem ty_lst {K : PySem.W.Frag} {H : Hp} {a : Addr} {vs : List V} (q : SqL K H a vs) : TyX K H (.ref a) (.type "list") := by
  rcases q with (q | ⟨o, q⟩) | ⟨o, its, n, q, hc, _⟩
  · exact .base (.lst q)
  · exact .base (.frz q)
  · exact .kList q hc
theorem ty_rep {K : PySem.W.Frag} {Z H : Hp} {v : V} {d : D} (hT : K = T.K) (s : Same Z H) (r : Rep T Z v d) (hk : kd d ≠ 6) (ci : ∀ c, kd d = 10 + c → ClsI K T c ∧ Cls K (T.cl c)) : TyX K H v (kTy T (kd d)) := by
  cases r with
  | non => exact .base .non
  | bl b => exact .base (.bl b)
  | int i => exact .base (.int i)
  | str l => exact .base (.str _)
  | tup q _ => exact ty_tup (by rw [hT]; exact sqt_mono s q)
  | lst q _ => exact ty_lst (.of (s _ _ q))
  | ro q _ => exact ty_lst (by rw [hT]; exact s.seq q)
  | @obj a dx vs c ds q n rs =>
    obtain ⟨I, cl⟩ := ci c rfl
    have e1 : kTy T (kd (.obj c ds)) = .ref (T.cl c) := by
      show kTy T (10 + c) = _
      rw [Nat.add_comm]
      rfl
    rw [e1]
    exact .base (.ins (s _ _ q) cl I.ca I.cn I.ct I.cm)
  | _ => exact (hk rfl).elim
structure OwnEq (X : Cx) (T : Tb) (c : Nat) (φ : Fn) (ks : List Nat) : Prop where
  op : ∃ k fx, FnC X.prog X.w X.K X.mg X.base T k φ [] fx ∧ Room (k + 1) X.A ∧ PySem.W.findIn X.K (.ref (T.cl c)) "__eq__" = some (some (.ref fx)) ∧ PySem.W.isFn X.K (.ref fx) = true
  nf : ∀ n ∈ ks, n ≠ 6 ∧ PySem.W.notFirst X.K (T.cl c) (kTy T n) = true ∧ ∀ c', n = 10 + c' → ClsI X.K T c' ∧ Cls X.K (T.cl c')
  ne : PySem.W.findIn X.K (.ref (T.cl c)) "__ne__" = some (some (.builtin "object.__ne__"))
  ob : PySem.W.mroIn X.K (T.cl c) (.type "object") = some true
def OwnEqs (X : Cx) (T : Tb) (M : List (Nat × Fn × List Nat)) : Prop := ∀ c φ ks, M.lookup c = some (φ, ks) → OwnEq X T c φ ks
def R.boolTo (neg : Bool) : R → R
  | .ok (.d (.bl b)) e => .ok (.d (.bl (if neg then !b else b))) e
  | .ex x e => .ex x e
  | _ => .no
def pEqX : D → D → Option RV := fun x y => match x, y with
  | .lst _, .str _ => some (.d (.bl false))
  | .ro _, .str _ => some (.d (.bl false))
  | .tup _, .str _ => some (.d (.bl false))
  | _, _ => none
def pEqM (neg : Bool) (M : List (Nat × Fn × List Nat)) (q : D → D → Option RV) : D → D → Env' → R := fun x y e => match x with
  | .obj c xs => (match M.lookup c with
    | some (φ, ks) => if kd y ∈ ks then (callR φ [] [.d (.obj c xs), .d y] e).boolTo neg else .no
    | none => .no)
  | _ => ofOp q x y e
end
end L2.S

set_option Elab.async false
set_option linter.all false
set_option maxRecDepth 100000
set_option maxHeartbeats 4000000
namespace L2.S
open PySem PySem.Spec PyProof.Rows
section
variable {X : Cx} {T : Tb} {W : WX} {a b c e : Expr} {es : List Expr} {f g h : Env' → R} {fa : Env' → RA} {pos p apos : Pos} {k : Nat} {φ : Fn} {x m : Str} {fx : Addr}
def cCh (p q : D → D → Option RV) (f g h : Env' → R) : Env' → R := fun env => (f env).bind fun x e => (g e).bind fun y e1 => match p x y with
  | some (.d (.bl true)) => (h e1).bind fun z e2 => ofOp q y z e2
  | some (.d (.bl false)) => .ok (.d (.bl false)) e1
  | _ => .no
theorem se_ch {op op' : CmpOp} {p q : D → D → Option RV} (ho : Op2 X T (compareOp op) p) (ho' : Op2 X T (compareOp op') q) (ha : SE X T W a f) (hb : SE X T W b g) (hc : SE X T W c h)
    (hm : lastMarks [op, op'] [b, c] = false := by with_unfolding_all rfl) : SE X T W (.Compare a [op, op'] [b, c] pos) (cCh p q f g h) := by
  refine ⟨fun pins s σ H Q I hq => ?_⟩
  obtain ⟨G, B, Z, env, E, hq⟩ := hq
  refine Compare_chain (thn (ha.run pins s σ H _ I (useR (P := fun x H1 => ∃ Z1 e dx, EOk T G B Z1 H1 σ e ∧ Rep T Z1 x dx ∧ PR T W G B Z1 σ Q ((g e).bind fun y e1 => match p dx y with
    | some (.d (.bl true)) => (h e1).bind fun z e2 => ofOp q y z e2
    | some (.d (.bl false)) => .ok (.d (.bl false)) e1
    | _ => .no)) E hq fun v H1 Z1 e d s E1 r q1 => ⟨Z1, e, d, E1, r, q1⟩)) fun v s1 ⟨x, H1, I1, r1, Z1, e, dx, E1, rx, q1⟩ => ?_) hm
  refine chain_link (thn (hb.run pins s1 σ H1 _ I1 (useR (P := fun y H2 => ∃ Z2 e2 dy, EOk T G B Z2 H2 σ e2 ∧ Rep T Z2 x dx ∧ Rep T Z2 y dy ∧ PR T W G B Z2 σ Q (match p dx dy with
    | some (.d (.bl true)) => (h e2).bind fun z e3 => ofOp q dy z e3
    | some (.d (.bl false)) => .ok (.d (.bl false)) e2
    | _ => .no)) E1 q1 fun v H2 Z2 e2 d s2 E2 r q2 => ⟨Z2, e2, d, E2, rx.mono s2, r, q2⟩)) fun u s2 ⟨y, H2, I2, r2, Z2, e2, dy, E2, rx2, ry, q2⟩ => ?_)
  cases hp : p dx dy with
  | none => rw [hp] at q2; exact q2.elim
  | some rv =>
    rw [hp] at q2
    cases rv with
    | o o => exact q2.elim
    | d d =>
      cases d with
      | bl k =>
        refine thn (ho pins s2 σ H2 x y v u (fun z H3 => z = .bl k ∧ ∃ Z3, Same Z2 Z3 ∧ EOk T G B Z3 H3 σ e2) G B Z2 σ e2 dx dy _ I2 r1 r2 E2 rx2 ry hp fun w H' Z' s' E' r' => ⟨by cases r'; rfl, Z', s', E'⟩) fun d s3 ⟨z, H3, I3, r3, ez, Z3, ss3, E3⟩ => ?_
        subst ez
        cases r3
        refine wpAny_truthy_bool ?_
        cases k with
        | false => exact ite_ff ⟨.bl false, H3, I3, rfl, q2 _ H3 Z3 ss3 E3 (.bl _)⟩
        | true =>
          dsimp only at q2
          refine ite_tt (chain_last (thn (hc.run pins s3 σ H3 _ I3 (useR (P := fun z H4 => ∃ Z4 e4 dz, EOk T G B Z4 H4 σ e4 ∧ Rep T Z4 y dy ∧ Rep T Z4 z dz ∧ PR T W G B Z4 σ Q (ofOp q dy dz e4)) E3 (PR.mono ss3 q2) fun v H4 Z4 e4 d s4 E4 r q4 => ⟨Z4, e4, d, E4, ry.mono (ss3.trans s4), r, q4⟩)) fun w' s4 ⟨z', H4, I4, r4, Z4, e4, dz, E4, ry4, rz, q4⟩ => ?_))
          exact OpE.of ho' pins s4 σ H4 y z' u w' Q G B Z4 e4 dy dz I4 r2 r4 E4 ry4 rz q4
      | _ => exact q2.elim
def IsiF (K : PySem.W.Frag) (T : Tb) (us : List Value) (M : List (Nat × Bool)) : Prop := ∀ n b, M.lookup n = some b → n ≠ 6 ∧ PySem.W.kitAny K (kTy T n) us = some b ∧ ∀ c, n = 10 + c → ClsI K T c ∧ Cls K (T.cl c)
theorem isi_0 {K : PySem.W.Frag} {us : List Value} : IsiF K T us [] := fun n b h => by simp at h
theorem isi_c {K : PySem.W.Frag} {us : List Value} {M : List (Nat × Bool)} {n : Nat} {b : Bool} (h : PySem.W.kitAny K (kTy T n) us = some b) (r : IsiF K T us M) (h6 : n < 6 := by decide) : IsiF K T us ((n, b) :: M) := fun n' b' q => by
  rw [List.lookup_cons] at q
  cases z : n' == n with
  | true =>
    rw [z] at q; cases q
    have := eq_of_beq z
    subst this
    exact ⟨by omega, h, fun c e => by omega⟩
  | false => rw [z] at q; exact r n' b' q
def cIsi (M : List (Nat × Bool)) (f : Env' → R) : Env' → R := fun env => (f env).bind fun d e => match M.lookup (kd d) with | some b => .ok (.d (.bl b)) e | none => .no
theorem kitAny_one {K : PySem.W.Frag} {t u : Value} {b : Bool} (h : PySem.W.kitAny K t [u] = some b) : PySem.W.kitOne K t u = some b := by
  unfold PySem.W.kitAny at h
  split at h
  · rename_i e; cases h; exact e
  · rename_i e; cases h; exact e
  · cases h
theorem se_isi {M : List (Nat × Bool)} {v : V} {u : Value} (hT : X.K = T.K) (hM : IsiF X.K T [u] M) (hv : ClsV v u) (hm : X.mg "isinstance" = none) (ha : SE X T W a f) (hb : PE X b (tC v)) (hg : Gl X "isinstance" := by rfl)
    (he : starEach [a, b] X.env = (false, eval a X.env) :: starEach [b] X.env := by rfl) (he2 : starEach [b] X.env = (false, eval b X.env) :: starEach [] X.env := by rfl) (hpl : (backTo pos (starEach [b] X.env)).any (·.1) = false := by rfl)
    (hbt : bootBuiltins "isinstance" = some (.builtin "isinstance") := by decide +kernel) : SE X T W (.Call (.Name "isinstance" p) [a, b] [] pos) (cIsi M f) := by
  refine PE.weak (pe_callB call_isi hg hm hbt (pa_cons ha (pa_cons hb pa_nil he2) he) (he := he) (hpl := hpl)) fun σ H Q ⟨G, B, Z, env, E, q⟩ => ?_
  refine useR E q fun w H1 Z1 e d s E1 r q1 => ?_
  cases hl : M.lookup (kd d) with
  | none => rw [hl] at q1; exact q1.elim
  | some k =>
    rw [hl] at q1
    obtain ⟨h6, hk, hc⟩ := hM _ _ hl
    exact ⟨w, v, _, u, k, rfl, hv, ty_rep hT E1.sub r h6 hc, kitAny_one hk, q1 _ H1 Z1 (Same.refl _) E1 (.bl _)⟩
def tVs : List V → TA
  | [] => tNil
  | v :: vs => tCons (tC v) (tVs vs)
def cProp (c : Nat) (φ : Fn) (f : Env' → R) : Env' → R := fun env => (f env).bind fun d e => match d with
  | .obj c' xs => if c' = c then (match callR φ [] [.d (.obj c' xs)] e with | .ok r e' => .ok r e' | _ => .no) else .no
  | _ => .no
end
end L2.S

set_option Elab.async false
set_option linter.all false
set_option maxRecDepth 100000
set_option maxHeartbeats 4000000
namespace L2.S
open PySem PySem.Spec PyProof.Rows
section
variable {X : Cx} {T : Tb} {W : WX} {a b c e : Expr} {es : List Expr} {f g h : Env' → R} {fa : Env' → RA} {pos p apos : Pos} {k : Nat} {φ : Fn} {x m : Str} {fx : Addr}
theorem st_ch {op op' : CmpOp} {p q : D → D → Option RV} (hT : X.K = T.K) (ho : Op2 X T (compareOp op) p) (ho' : Op2 X T (compareOp op') q) (ha : SE X T W a f) (hb : SE X T W b g) (hc : SE X T W c h)
    (hm : lastMarks [op, op'] [b, c] = false := by with_unfolding_all rfl) : ST X T W (.Compare a [op, op'] [b, c] pos) (cTr (cCh p q f g h)) := by
  refine ⟨fun pins s σ H Q I h0 => ?_⟩
  have hq' : tX T W (cCh p q f g h) σ H fun v H1 => ∃ k, TruV X.K v H1 k ∧ Q k H1 := by
    obtain ⟨G, B, Z, env, E, q⟩ := h0
    refine useT E q fun v H1 Z1 e d s E1 r q1 => ?_
    cases h : truthD d with
    | none => rw [h] at q1; exact q1.elim
    | some b =>
      rw [h] at q1
      exact ⟨b, tru_rep hT E1 r h, q1 H1 Z1 (Same.refl _) E1⟩
  obtain ⟨G, B, Z, env, E, hq⟩ := hq'
  refine isTrue_chain (thn (ha.run pins s σ H _ I (useR (P := fun x H1 => ∃ Z1 e dx, EOk T G B Z1 H1 σ e ∧ Rep T Z1 x dx ∧ PR T W G B Z1 σ (fun v H1 => ∃ k, TruV X.K v H1 k ∧ Q k H1) ((g e).bind fun y e1 => match p dx y with
    | some (.d (.bl true)) => (h e1).bind fun z e2 => ofOp q y z e2
    | some (.d (.bl false)) => .ok (.d (.bl false)) e1
    | _ => .no)) E hq fun v H1 Z1 e d s E1 r q1 => ⟨Z1, e, d, E1, r, q1⟩)) fun v s1 ⟨x, H1, I1, r1, Z1, e, dx, E1, rx, q1⟩ => ?_) hm
  refine test_link (thn (hb.run pins s1 σ H1 _ I1 (useR (P := fun y H2 => ∃ Z2 e2 dy, EOk T G B Z2 H2 σ e2 ∧ Rep T Z2 x dx ∧ Rep T Z2 y dy ∧ PR T W G B Z2 σ (fun v H1 => ∃ k, TruV X.K v H1 k ∧ Q k H1) (match p dx dy with
    | some (.d (.bl true)) => (h e2).bind fun z e3 => ofOp q dy z e3
    | some (.d (.bl false)) => .ok (.d (.bl false)) e2
    | _ => .no)) E1 q1 fun v H2 Z2 e2 d s2 E2 r q2 => ⟨Z2, e2, d, E2, rx.mono s2, r, q2⟩)) fun u s2 ⟨y, H2, I2, r2, Z2, e2, dy, E2, rx2, ry, q2⟩ => ?_)
  cases hp : p dx dy with
  | none => rw [hp] at q2; exact q2.elim
  | some rv =>
    rw [hp] at q2
    cases rv with
    | o o => exact q2.elim
    | d d =>
      cases d with
      | bl k =>
        refine thn (ho pins s2 σ H2 x y v u (fun z H3 => z = .bl k ∧ ∃ Z3, Same Z2 Z3 ∧ EOk T G B Z3 H3 σ e2) G B Z2 σ e2 dx dy _ I2 r1 r2 E2 rx2 ry hp fun w H' Z' s' E' r' => ⟨by cases r'; rfl, Z', s', E'⟩) fun d s3 ⟨z, H3, I3, r3, ez, Z3, ss3, E3⟩ => ?_
        subst ez
        cases r3
        refine wpAny_truthy_bool ?_
        cases k with
        | false =>
          obtain ⟨k', ek, q3⟩ := q2 _ H3 Z3 ss3 E3 (.bl _)
          cases (show k' = false from ek)
          exact ite_ff ⟨H3, I3, q3⟩
        | true =>
          dsimp only at q2
          refine ite_tt (test_last (thn (hc.run pins s3 σ H3 _ I3 (useR (P := fun z H4 => ∃ Z4 e4 dz, EOk T G B Z4 H4 σ e4 ∧ Rep T Z4 y dy ∧ Rep T Z4 z dz ∧ PR T W G B Z4 σ (fun v H1 => ∃ k, TruV X.K v H1 k ∧ Q k H1) (ofOp q dy dz e4)) E3 (PR.mono ss3 q2) fun v H4 Z4 e4 d s4 E4 r q4 => ⟨Z4, e4, d, E4, ry.mono (ss3.trans s4), r, q4⟩)) fun w' s4 ⟨z', H4, I4, r4, Z4, e4, dz, E4, ry4, rz, q4⟩ => ?_))
          exact thn (OpE.of ho' pins s4 σ H4 y z' u w' _ G B Z4 e4 dy dz I4 r2 r4 E4 ry4 rz q4) fun d' s5 ⟨z2, H5, I5, r5, q5⟩ => tru_ok pins s5 σ H5 z2 d' Q I5 r5 q5
      | _ => exact q2.elim
structure ExcF (X : Cx) (T : Tb) (c : Nat) : Prop where
  ex : ∃ B n i bm, ExcBaseFacts B n i bm ∧ PySem.W.excIn X.K (T.ec c) bm n = true
  kp : PySem.W.keepIn X.K (.ref (T.ec c)) = true
  ra : Raises X (.ref (T.ec c))
  nf : T.ef c = []
def sRaise (c : Nat) : Env' → RS := fun e => .ex ⟨c, []⟩ e
theorem ss_raise {c : Nat} {m : Str} {j : Nat} {p2 p3 : Pos} (hc : X.calm = true) (tk : Takes X W) (F : ExcF X T c) (hm : X.mg x = some (.ref (T.ec c))) (hg : Gl X x := by rfl) (hdb : (x == ("__debug__" : Str)) = false := by decide) :
    SS X T W (.Raise (some (.Call (.Name x p) [.Constant (.str m) j p2] [] p3)) none pos) (sRaise c) := by
  obtain ⟨B, n, i, bm, F1, F2⟩ := F.ex
  refine PS.weak (ps_raise hc tk (pmk_own F1 F2 hm F.kp F.ra hg hdb)) fun K σ H ⟨G, B, Z, env, E, q⟩ => ?_
  exact q _ _ σ H Z (Same.refl _) E ⟨rfl, .inl ⟨F.nf, rfl, rfl⟩⟩
def ExmF (K : PySem.W.Frag) (T : Tb) (c : Value) (M : List (Nat × Bool)) : Prop := ∀ n b, M.lookup n = some b → PySem.W.exmOne K (.ref (T.ec n)) c = some b
theorem exm_0 {K : PySem.W.Frag} {c : Value} : ExmF K T c [] := fun n b h => by simp at h
theorem exm_c {K : PySem.W.Frag} {c : Value} {M : List (Nat × Bool)} {n : Nat} {b : Bool} (h : PySem.W.exmOne K (.ref (T.ec n)) c = some b) (r : ExmF K T c M) : ExmF K T c ((n, b) :: M) := fun n' b' q => by
  rw [List.lookup_cons] at q
  cases z : n' == n with
  | true =>
    rw [z] at q; cases q
    have := eq_of_beq z
    subst this
    exact h
  | false => rw [z] at q; exact r n' b' q
def sTry (M : List (Nat × Bool)) (t : Env' → RS) (u : Env' → RS) : Env' → RS := fun env => match t env with
  | .ex x e => (match M.lookup x.c with | some true => (match u e with | .ex _ _ => .no | r => r) | some false => .ex x e | none => .no)
  | r => r
end
end L2.S

set_option Elab.async false
set_option linter.all false
set_option maxRecDepth 100000
set_option maxHeartbeats 4000000
namespace L2.S
open PySem PySem.Spec PyProof.Rows
theorem ns_none {K : PySem.W.Frag} {h : Heap} {a : Addr} {m : Str → Option Value} {n : Str} (X : K.In h) (G : h.Ns a m) (e : PySem.W.nsIn K a n = some none) : m n = none := by
  obtain ⟨o, es, ep, ho, hd, _, hf⟩ := G
  unfold PySem.W.nsIn at e
  split at e
  · rename_i c d es' n' sl q
    have := X _ _ q
    rw [ho] at this
    cases this
    cases hd
    split at e
    · cases e
    · rename_i he
      rw [← hf]
      unfold nsFind PySem.findBy
      rw [← Array.find?_toList, he]
      rfl
  · cases e
structure SeerK (K : PySem.W.Frag) : Prop where
  c1 : PySem.W.nsIn K cStatics "sys.audit-hooks" = some none
  c2 : PySem.W.nsIn K cStatics "sys.dict" = some none
  m1 : PySem.W.nsIn K sysModules "_pylong" = some none
  m2 : ∃ c d es n sl, K.lookup sysModules = some ⟨c, d, .dict es n, sl⟩ ∧ (es.toList.all fun e => match e.key with | .str _ _ => true | _ => false) = true
  mn : ∃ bm ob sl, PySem.W.nsIn K mainGlobals "__builtins__" = some (some (.ref bm)) ∧ K.lookup bm = some ⟨.type "module", some builtinsNs, ob, sl⟩
theorem SeerK.no {K : PySem.W.Frag} {mg : Str → Option Value} {h : Heap} (S : SeerK K) (X : K.In h) (hl : h.NoLimit) (G : h.Ns mainGlobals mg) (hb : ∃ mb, h.Ns builtinsNs mb ∧ ∀ x : Str, x ≠ "__name__" → mb x = bootBuiltins x) : h.NoSeer where
  statics := let ⟨mc, n, _⟩ := hl; ⟨mc, n, ns_none X n S.c1, ns_none X n S.c2⟩
  mods := by
    obtain ⟨c, d, es, n, sl, e, k⟩ := S.m2
    have e' := X _ _ e
    have q : h.isNs sysModules = true := by
      unfold Heap.isNs
      rw [e']
      dsimp only
      rw [← Array.all_toList]
      exact k
    have N := Heap.Ns.of_isNs q
    exact ⟨_, N, ns_none X N S.m1⟩
  imp := hb
  main := by
    obtain ⟨bm, ob, sl, e1, e2⟩ := S.mn
    exact ⟨mg, bm, _, G, PySem.W.mg_of X G e1, X _ _ e2, rfl, rfl⟩
theorem seer_mk {K : PySem.W.Frag} {bm : Addr} {ob : Data} {sl : Array (Option Value)} {c : Value} {d : Option Addr} {es : Array DictEntry} {n : Nat} {sl2 : Array (Option Value)} (c1 : PySem.W.nsIn K cStatics "sys.audit-hooks" = some none) (c2 : PySem.W.nsIn K cStatics "sys.dict" = some none) (m1 : PySem.W.nsIn K sysModules "_pylong" = some none)
    (m2 : K.lookup sysModules = some ⟨c, d, .dict es n, sl2⟩) (mk : (es.toList.all fun e => match e.key with | .str _ _ => true | _ => false) = true) (b1 : PySem.W.nsIn K mainGlobals "__builtins__" = some (some (.ref bm))) (b2 : K.lookup bm = some ⟨.type "module", some builtinsNs, ob, sl⟩) : SeerK K :=
  ⟨c1, c2, m1, ⟨_, _, _, _, _, m2, mk⟩, _, _, _, b1, b2⟩
structure Seer (X : Cx) : Prop where
  k : SeerK X.K
  tree : X.prog.given.tree = none
  top : ∃ env l, X.stack = env :: l ∧ env.scope.isGenerator = false ∧ env.scope.isCoroutine = false ∧ env.builtins = builtinsNs ∧ env.globals = mainGlobals
  dep : Room 40 X.A
section
variable {X : Cx} {T : Tb} {W : WX} {a b c e : Expr} {es : List Expr} {f g h : Env' → R} {fa : Env' → RA} {pos p apos : Pos} {k : Nat} {φ : Fn} {x m : Str} {fx : Addr}
theorem op_div (S : Seer X) : OpR X (binaryOp .FloorDiv) (rI (fun _ j => j ≠ 0) fun i j => .int (i.fdiv j)) := by
  intro pins s σ H x y v u Q I rx ry h
  have key : PylongRoom (model X.prog X.w) X.A s := by
    obtain ⟨env, l, hs, h1, h2, h3, h4⟩ := S.top
    have hk := I.bk
    have nl := I.ok.mod.nolimit.keeps hk
    have ns : s.heap.NoSeer := (S.k.no I.ok.mod.kin I.ok.mod.nolimit I.ok.mod.glob I.ok.mod.blt).keeps hk
    have fr : X.A.frames = some (env :: l) := by rw [I.ok.frames, hs]
    have dp : X.A.depth + Builtin.pylongFrames < recursionLimit := by have := S.dep.dp; show X.A.depth + 100 < _; omega
    exact PylongRoom.of nl dp (SeerAt.of ns S.tree fr h1 h2 h3 h4)
  obtain ⟨i, j, rfl, rfl, hc, q⟩ := h
  obtain ⟨t, rfl⟩ := rx
  obtain ⟨t', rfl⟩ := ry
  exact floordiv_int hc ⟨.int (i.fdiv j), H, I.tok _, ⟨_, rfl⟩, q⟩ (.inr key)
def pDivG : D → D → Option RV := fun x y => match x, y with | .int i, .int j => if j = 0 then none else some (.d (.int (i.fdiv j))) | _, _ => none
theorem o_div (S : Seer X) : Op2 X T (binaryOp .FloorDiv) pDivG := op_flat (op_div S) fun G B Z H σ env x y dx dy w Q E r1 r2 e c => by
  unfold pDivG at e
  split at e
  · rename_i i j
    split at e
    · cases e
    · rename_i hj
      cases e
      cases r1
      cases r2
      exact ⟨i, j, rfl, rfl, hj, c _ H Z (Same.refl _) E (.int _)⟩
  · cases e
def sPar2 (i j : Nat) (fa : Env' → RA) : Env' → RS := fun env => match fa env with
  | .ok as e => (match avD as with
    | some [x, y] => if canSet e i && canSet (e.set i (.val x)) j then .nx ((e.set i (.val x)).set j (.val y)) else .no
    | _ => .no)
  | .ex x e => .ex x e
  | .no => .no
theorem ss_par2 {i j : Nat} {x y : Str} {px py pt : Pos} {kt k2 pt2} (hc : X.calm = true) (hN : X.N.Nodup) (ha : SA X T W [a, b] fa) (hi : X.N[i]? = some x := by rfl) (hj : X.N[j]? = some y := by rfl) (hij : i ≠ j := by decide)
    (hx : X.env.scope.names.lookup x = some .local := by rfl) (hy : X.env.scope.names.lookup y = some .local := by rfl)
    (hw : swappedStores [.Tuple [.Name x px, .Name y py] kt pt] (.Tuple [a, b] k2 pt2) X.env = pure (some [x, y]) := by rfl)
    (hs : swapsWithSole [.Tuple [.Name x px, .Name y py] kt pt] (.Tuple [a, b] k2 pt2) pos.line X.env = pure false := by rfl) :
    SS X T W (.Assign [.Tuple [.Name x px, .Name y py] kt pt] (.Tuple [a, b] k2 pt2) pos) (sPar2 i j fa) := by
  refine PS.weak (ps_par hc hN hi hj hij hx hy ha hw hs) fun K σ H ⟨G, B, Z, env, E, q⟩ => ?_
  show tXA T W fa σ H _
  refine ⟨G, B, Z, env, E, ?_⟩
  unfold sPar2 at q
  cases hf : fa env with
  | no => rw [hf] at q; exact q.elim
  | ex x e => rw [hf] at q; exact fun cls d H' Z' s' E' r' => q cls d σ H' Z' s' E' r'
  | ok as e =>
    rw [hf] at q
    dsimp only at q
    intro vs H1 Z1 s1 E1 r1
    split at q
    · rename_i dx dy hd
      have rs := r1.reps hd
      cases rs with
      | cons ra rs =>
        cases rs with
        | cons rb rs =>
          cases rs
          split at q
          · rename_i hcs
            rw [Bool.and_eq_true] at hcs
            have E2 := E1.store (r := .d dx) hcs.1 ra
            have E3 := E2.store (r := .d dy) hcs.2 rb
            exact ⟨_, _, rfl, q _ H1 Z1 s1 E3⟩
          · exact q.elim
    · exact q.elim
end
end L2.S

set_option Elab.async false
set_option linter.all false
set_option maxRecDepth 100000
set_option maxHeartbeats 4000000
namespace L2.S
open PySem PySem.Spec PyProof.Rows
def fnF (g : Env' → RS) (n m : Nat) : Fn := fun as => if as.length = m then bodyF g n as else .no
theorem fnF_hn {g : Env' → RS} {n m : Nat} : ∀ as, fnF g n m as ≠ .no → as.length = m ∧ bodyF g n as = fnF g n m as := fun as h => by
  unfold fnF at h ⊢
  by_cases q : as.length = m
  · rw [if_pos q]; exact ⟨q, rfl⟩
  · rw [if_neg q] at h; exact (h rfl).elim
section
variable {P : Program} {w : World} {K : PySem.W.Frag} {mg : Str → Option Value} {base : Heap} {T : Tb} {x qual : Str} {st : Stmt} {f : Addr} {fd : FuncData} {N ps : List Str} {k : Nat} {g : Env' → RS} {dvs : List V} {kws : List (Str × V)}
theorem fn_d {n m : Nat} (F : FunD K x qual (defArgs st) (defBody st) (defScope st) dvs kws f fd) (S : FnScope N ps (defScope st))
    (body : ∀ (cdv : Value) (A : Around) (outer : List Env) (s : Shared) (H : Hp) (E : XK), Room k (A.deeper (envOfC qual (defScope st) s.heap.objs.size f cdv)) →
      SSs (cxOf (L2.CX P w) P w K mg base N qual (defScope st) f cdv A outer s H E) T (fun cls d _ H => E cls d H) (defBody st) g) (hn : N.length = n := by rfl) (hm : ps.length = m := by rfl) :
    FnOk P w K mg base (L2.CX P w) (k + 1) f fd ps (sp T (fnF g n m)) := by
  subst hn; subst hm
  have hpl : ps.length ≤ N.length := by have := congrArg List.length S.pre; rw [List.length_take] at this; omega
  refine F.ok S (fun vs H Q E ⟨Z, as, s, A, q⟩ => ?_) (fun cdv A outer s H vs Q E hr ⟨Z, as, ss, AA, q⟩ => ⟨_, body cdv A outer s H E hr, ?_⟩)
  · rw [A.len]
    refine (fnF_hn (g := g) (n := N.length) as fun z => ?_).1
    rw [z] at q
    exact q
  · have hno : fnF g N.length ps.length as ≠ .no := fun z => by rw [z] at q; exact q
    obtain ⟨hl, hb⟩ := fnF_hn as hno
    refine ⟨⟨H, Z⟩, lentA vs as, Z, _, EOk.start ss AA (by rw [hl]; exact hpl), ?_⟩
    rw [← hb] at q
    unfold bodyF at q
    cases hg : g (as ++ List.replicate (N.length - as.length) .un) with
    | rt r e =>
      rw [hg] at q
      intro v σ' H' Z' s' E' r'
      refine q v H' Z' (E'.after AA s') ?_
      cases r with
      | d d => exact r'
      | o o =>
        obtain ⟨a, h, e1, e2, e3, e4, e5, _⟩ := r'
        exact ⟨a, h, e1, e2, e3, e4, e5⟩
    | nx e =>
      rw [hg] at q
      intro σ' H' Z' s' E'
      exact q .non H' Z' (E'.after AA s') .non
    | ex x e =>
      rw [hg] at q
      intro c d σ' H' Z' s' E' r'
      exact q c d H' Z' (E'.after AA s') r'
    | bk e => rw [hg] at q; exact q.elim
    | ct e => rw [hg] at q; exact q.elim
    | no => rw [hg] at q; exact q.elim
theorem fnc_all {φ : Fn} (F : FunD K x qual (defArgs st) (defBody st) (defScope st) [] kws f fd) (ok : FnOk P w K mg base (L2.CX P w) k f fd ps (sp T φ))
    (h : ∀ (kV doc pm : Value) (an : Option Addr) (cdv ct : Value) (us : List Value), us.length = ps.length → bindArgs (PySem.W.fnOf x qual (defArgs st) (defBody st) (defScope st) .none kV doc pm an cdv ct) ⟨us, []⟩ = pure (ps.zip us)) : FnC P w K mg base T k φ [] f :=
  ⟨⟨fd, ps, [], [], ok, F.bindsN h, .nil, fun _ => .nil⟩, F.kp⟩
end
theorem fun0 {K : PySem.W.Frag} {x qual : Str} {st : Stmt} {f : Addr} {oc : Value} {od an : Option Addr} {osl : Array (Option Value)} {kV doc pm cdv ct : Value} (l : K.lookup f = some ⟨oc, od, .func (PySem.W.fnOf x qual (defArgs st) (defBody st) (defScope st) .none kV doc pm an cdv ct), osl⟩)
    (c : PySem.W.codeIn K cdv qual = true) (k : PySem.W.keepIn K (.ref f) = true) : ∃ fd, FunD K x qual (defArgs st) (defBody st) (defScope st) [] [] f fd := ⟨_, ⟨oc, od, .none, kV, doc, pm, an, cdv, ct, osl, rfl, l, c, .inl ⟨rfl, rfl⟩, .inl rfl⟩, k⟩
end L2.S

set_option Elab.async false
set_option linter.all false
set_option maxRecDepth 100000
set_option maxHeartbeats 4000000
namespace L2.S
open PySem PySem.Spec PyProof.Rows
def kitTs (a : String) : List String → Option Bool
  | [] => some false
  | c :: r => match kitB a c with | some true => some true | some false => kitTs a r | none => none
theorem kit_tys {K : PySem.W.Frag} {a : String} : ∀ {cs : List String} {b : Bool}, kitTs a cs = some b → PySem.W.kitAny K (.type a) (cs.map .type) = some b
  | [], b, h => h
  | c :: r, b, h => by
    unfold kitTs at h
    split at h
    · rename_i e
      cases h
      exact kitAny_cons (kit_ty e) (fun z => nomatch z) fun _ => rfl
    · rename_i e
      exact kitAny_cons (kit_ty e) (fun _ => kit_tys h) (fun z => nomatch z)
    · cases h
def sizD : D → Nat
  | .int i => i.natAbs
  | .str l => l.length
  | .tup xs => xs.length
  | .lst xs => xs.length
  | .ro xs => xs.length
  | _ => 0
def sizV : SV → Nat
  | .un => 0
  | .val d => sizD d
  | .own _ (.l xs) => xs.length
  | .own _ (.s _ _) => 0
def fuelE (e : Env') : Nat := 1 + (e.map sizV).sum
end L2.S
namespace L2.S
open PySem PySem.Spec PyProof.Rows
end L2.S

set_option Elab.async false
set_option linter.all false
set_option maxRecDepth 100000
set_option maxHeartbeats 4000000
namespace L2.S
open PySem PySem.Spec PyProof.Rows
def spL (K : PySem.W.Frag) : Sp := fun vs H Q _ => ∃ (a : Addr) (ns : List Int), vs = [.ref a] ∧ SqL K H a (ns.map V.int) ∧ ns.length ≤ 63 ∧ (∀ z ∈ ns, Builtin.Int.intBits z ≤ 1048576) ∧ ∀ H', Q (.bl true) H'
theorem reps_ints {T : Tb} {Z : Hp} : ∀ ns : List Int, Reps T Z (ns.map V.int) (ns.map D.int)
  | [] => .nil
  | n :: ns => .cons (.int n) (reps_ints ns)
theorem spL_sp {T : Tb} {φ : Fn} (law : ∀ ns : List Int, ns.length ≤ 63 → (∀ z ∈ ns, Builtin.Int.intBits z ≤ 1048576) → ∃ outs, φ [.val (.ro (ns.map D.int))] = .ok (.d (.bl true)) outs)
    (vs : List V) (H : Hp) (Q : VK) (E : XK) (h : spL T.K vs H Q E) : sp T φ vs H Q E := by
  obtain ⟨a, ns, rfl, hs, hl, hb, q⟩ := h
  obtain ⟨outs, e⟩ := law ns hl hb
  refine ⟨H, [.val (.ro (ns.map D.int))], Same.refl _, ⟨rfl, fun i d h => ?_, fun i b o h => ?_, fun i j a n h => ?_⟩, ?_⟩
  · cases i with
    | zero => simp at h; subst h; exact ⟨.ref a, rfl, .ro hs (reps_ints ns)⟩
    | succ i => simp at h
  · cases i with
    | zero => simp at h
    | succ i => simp at h
  · obtain ⟨⟨b, o, h⟩, _⟩ := mem_lentA.mp h
    cases i with
    | zero => simp at h
    | succ i => simp at h
  · rw [e]
    intro v H' Z' Af r
    cases r
    exact q H'
theorem fnOk_weak {P : Program} {w : World} {K : PySem.W.Frag} {mg : Str → Option Value} {base : Heap} {CX : CXT} {k : Nat} {f : Addr} {fd : FuncData} {ps : List Str} {s s' : Sp} (F : FnOk P w K mg base CX k f fd ps s) (h : ∀ vs H Q E, s' vs H Q E → s vs H Q E) : FnOk P w K mg base CX k f fd ps s' :=
  ⟨fun vs H Q E x => F.len vs H Q E (h _ _ _ _ x), fun A outer s H as us vs Q E hr e0 b r x => F.run A outer s H as us vs Q E hr e0 b r (h _ _ _ _ x)⟩
theorem walk_S {l : PySem.W.OpenLaw} {k : Nat} {q : Program} {loose : List Str} {XP : (Str → Option Value) → Heap → Prop} {YP : World → Heap → Prop} {d : DefRec} {K : Params → PySem.W.Frag} {φ : Fn}
    (hn : l.most = some 63) (hdf : d.params.defaults = []) (hr : Room k callerA)
    (hY : ∀ (w : World) (h : Heap), YP w h → (K w.params).In h)
    (law : ∀ ns : List Int, ns.length ≤ 63 → (∀ z ∈ ns, Builtin.Int.intBits z ≤ 1048576) → ∃ outs, φ [.val (.ro (ns.map D.int))] = .ok (.d (.bl true)) outs)
    (F : ∀ (w : World) (mg : Str → Option Value) (fa : Addr) (h : Heap), (K w.params).In h → h.Ns mainGlobals mg → mg d.name = some (.ref fa) →
      ∃ (T : Tb) (fd : FuncData), T.K = K w.params ∧ (∀ (s : Shared) (u : Value), BindsTo s fd ⟨[u], []⟩ [("script", u)]) ∧
        ∀ base : Heap, (K w.params).In base → base.Ns mainGlobals mg → FnOk l.prog w (K w.params) mg base (L2.CX l.prog w) k fa fd ["script"] (sp T φ)) :
    PySem.W.WalkO q loose XP YP l.row.toRowW d [] (fun f vs => PySem.call f vs) := by
  refine walk_ofB (x := "script") (K := K) (CX := fun w => L2.CX l.prog w) (sp := fun w => spL (K w.params)) hn (by decide) hdf hr hY (fun w mg fa h X G e => ?_) (fun w H a ns h1 h2 h3 h4 => ⟨a, ns, rfl, h4, h1, h2, fun _ => rfl⟩) fun w H s e s' c => ?_
  · obtain ⟨T, fd, hK, hb, hF⟩ := F w mg fa h X G e
    refine ⟨fd, hb, fun base X G => fnOk_weak (hF base X G) fun vs H Q E x => spL_sp law vs H Q E ?_⟩
    rw [hK]
    exact x
  · obtain ⟨_, _, _, _, _, _, _, _, _, _, _, _, z⟩ := c
    exact z.elim
end L2.S
namespace L2.S
open PySem PySem.Spec PyProof.Rows
theorem funD_one {K : PySem.W.Frag} {x qual : Str} {p : Arguments} {b : List Stmt} {sc : Scope} {dvs : List V} {kws : List (Str × V)} {f : Addr} {fd fd2 : FuncData} (F2 : FunD K x qual p b sc dvs kws f fd2) (F : FunD K x qual p b sc dvs kws f fd) : fd2 = fd := by
  obtain ⟨_, _, _, _, _, _, _, _, _, _, _, l, _⟩ := F.ex
  obtain ⟨_, _, _, _, _, _, _, _, _, _, _, l2, _⟩ := F2.ex
  rw [l] at l2
  cases l2
  rfl
end L2.S

set_option Elab.async false
set_option linter.all false
set_option maxRecDepth 100000
set_option maxHeartbeats 4000000
namespace L2.S
theorem mulOk_lt {i j : Int} {a b : Nat} (h1 : i.natAbs < 2 ^ a) (h2 : j.natAbs < 2 ^ b) (h : a + b ≤ 100000000) (ha : 0 < a) (hb : 0 < b) : mulOk i j = true := by
  have l : ∀ (x c : Nat), x < 2 ^ c → 0 < c → x.log2 < c := fun x c hx hc => by
    by_cases hx0 : x = 0
    · subst hx0; rw [Nat.log2_zero]; exact hc
    · exact (Nat.log2_lt hx0).mpr hx
  unfold mulOk
  exact decide_eq_true (by have := l _ _ h1 ha; have := l _ _ h2 hb; omega)
theorem natAbs_mul_lt {i j : Int} {a b : Nat} (h1 : i.natAbs < 2 ^ a) (h2 : j.natAbs < 2 ^ b) : (i * j).natAbs < 2 ^ (a + b) := by
  rw [Int.natAbs_mul, Nat.pow_add]
  exact Nat.mul_lt_mul'' h1 h2
theorem natAbs_add_lt {i j : Int} {a : Nat} (h1 : i.natAbs < 2 ^ a) (h2 : j.natAbs < 2 ^ a) : (i + j).natAbs < 2 ^ (a + 1) := by
  have := Int.natAbs_add_le i j
  rw [Nat.pow_succ]
  omega
theorem natAbs_sub_lt {i j : Int} {a : Nat} (h1 : i.natAbs < 2 ^ a) (h2 : j.natAbs < 2 ^ a) : (i - j).natAbs < 2 ^ (a + 1) := by
  have := Int.natAbs_sub_le i j
  rw [Nat.pow_succ]
  omega
theorem natAbs_le_pow {i : Int} {a b : Nat} (h1 : i.natAbs < 2 ^ a) (h : a ≤ b) : i.natAbs < 2 ^ b := Nat.lt_of_lt_of_le h1 (Nat.pow_le_pow_right (by decide) h)
theorem bits_lt {z : Int} {k : Nat} (h : PySem.Builtin.Int.intBits z ≤ k) : z.natAbs < 2 ^ k := by
  unfold PySem.Builtin.Int.intBits at h
  split at h
  · rename_i h0
    have : z = 0 := by simpa using h0
    subst this
    exact Nat.two_pow_pos k
  · rename_i h0
    have hz : z.natAbs ≠ 0 := by simpa using h0
    exact (Nat.log2_lt hz).mp (by omega)
end L2.S

set_option Elab.async false
set_option linter.all false
set_option maxRecDepth 100000
set_option maxHeartbeats 4000000
namespace L2.S
theorem Zlc (a b : Int) : pAdd (.int a) (.int b) = some (.d (.int (a + b))) := rfl
theorem Zld (a b : Int) : pSubI (.int a) (.int b) = some (.d (.int (a - b))) := rfl
theorem mul_ii {a b : Int} (h : mulOk a b = true) : pMul (.int a) (.int b) = some (.d (.int (a * b))) := by
  show orP (pI mulOk fun i j => .int (i * j)) _ (.int a) (.int b) = _
  unfold orP pI
  dsimp only
  rw [if_pos h]
theorem mod_ii {a b : Int} (h : 0 < b) : pModI (.int a) (.int b) = some (.d (.int (a % b))) := by
  show pI posOk _ (.int a) (.int b) = _
  unfold pI
  dsimp only
  rw [if_pos (show posOk a b = true from decide_eq_true h)]
theorem div_ii {a b : Int} (h : b ≠ 0) : pDivG (.int a) (.int b) = some (.d (.int (a.fdiv b))) := by
  unfold pDivG
  dsimp only
  rw [if_neg h]
theorem Zle (a b : Int) : pLt (.int a) (.int b) = some (.d (.bl (decide (a < b)))) := rfl
theorem Zlf (a b : Int) : pLe (.int a) (.int b) = some (.d (.bl (decide (a ≤ b)))) := rfl
theorem Zlg (a b : Int) : pGt (.int a) (.int b) = some (.d (.bl (decide (b < a)))) := rfl
theorem Zlh (a b : Int) : pGe (.int a) (.int b) = some (.d (.bl (decide (b ≤ a)))) := rfl
theorem Zli (a b : Int) : pEq false (.int a) (.int b) = some (.d (.bl (a == b))) := rfl
theorem Zlj (a b : Int) : pEq true (.int a) (.int b) = some (.d (.bl (!(a == b)))) := rfl
theorem own_oo {M : List (Nat × Fn)} {q : D → D → Option RV} (c : Nat) (xs ys : List D) (e : Env') : pOwn M q (.obj c xs) (.obj c ys) e = (match M.lookup c with | some φ => callR φ [] [.d (.obj c xs), .d (.obj c ys)] e | none => .no) := by
  show (if c = c then _ else _) = _
  rw [if_pos rfl]
  all_goals rfl
def startE (as : List SV) (n : Nat) : Env' := as ++ List.replicate (n - as.length) .un
def endF (as : List SV) : RS → RF
  | .rt r e => .ok r (outsA 0 as e)
  | .nx e => .ok (.d .non) (outsA 0 as e)
  | .ex x e => .ex x (outsA 0 as e)
  | _ => .no
theorem fnF_run {g : Env' → RS} {n m : Nat} {as : List SV} (h : as.length = m := by rfl) : fnF g n m as = endF as (g (startE as n)) := by
  unfold fnF
  rw [if_pos h]
  unfold bodyF endF startE
  cases g (as ++ List.replicate (n - as.length) SV.un) <;> rfl
end L2.S
namespace L2.S
def Fr1 (x : SV) : Prop := x = .un ∨ ∃ d, x = .val d
theorem Fr1.un : Fr1 .un := .inl rfl
theorem Fr1.val {d : D} : Fr1 (.val d) := .inr ⟨d, rfl⟩
theorem smI_ok {n : Nat} (h : n ≤ 16777216) : smI (n : Int) = true := by
  unfold smI
  simp
  omega
def lsI (rs : List Int) : List D := rs.map D.int
theorem rngD_0 (n : Nat) : rngD 0 (n : Int) = (List.range n).map fun (i : Nat) => D.int (i : Int) := by
  unfold rngD
  simp
end L2.S
namespace L2.S
end L2.S
namespace L2.S
end L2.S
namespace L2.S
end L2.S
namespace L2.S
end L2.S
namespace L2.S
end L2.S
namespace L2.S
end L2.S

set_option Elab.async false
set_option linter.all false
set_option maxRecDepth 100000
set_option maxHeartbeats 4000000
namespace L2.S
structure Pin {α : Type} (a : α) : Type where
  mk ::
def wp {γ : Type} (f : Env' → γ) (e : Env') (Q : γ → Prop) (_ : Pin (f, e, Q) := ⟨⟩) : Prop := Q (f e)
theorem wp_k {γ : Type} {f : Env' → γ} {e : Env'} {Q Q' : γ → Prop} (h : Q = Q') : wp f e Q = wp f e Q' := by rw [h]
class Out (γ : Type) where
  ex : Ex → Env' → γ
  no : γ
instance : Out R := ⟨.ex, .no⟩
instance : Out RT := ⟨.ex, .no⟩
instance : Out RA := ⟨.ex, .no⟩
instance : Out RS := ⟨.ex, .no⟩
instance : Out RI := ⟨.ex, .no⟩
section
variable {γ : Type} [Out γ]
def bK (Q : γ → Prop) (k : D → Env' → Prop) : R → Prop
  | .ok (.d d) e => k d e
  | .ok (.o (.l xs)) e => k (.lst xs) e
  | .ok (.o (.s _ _)) _ => Q Out.no
  | .ex x e => Q (Out.ex x e)
  | .no => Q Out.no
def rvK (Q : γ → Prop) (k : RV → Env' → Prop) : R → Prop
  | .ok r e => k r e
  | .ex x e => Q (Out.ex x e)
  | .no => Q Out.no
def tK (Q : γ → Prop) (k : Bool → Env' → Prop) : RT → Prop
  | .ok b e => k b e
  | .ex x e => Q (Out.ex x e)
  | .no => Q Out.no
def aK (Q : γ → Prop) (k : List AV → Env' → Prop) : RA → Prop
  | .ok b e => k b e
  | .ex x e => Q (Out.ex x e)
  | .no => Q Out.no
def iK (Q : γ → Prop) (k : List D → Env' → Prop) : RI → Prop
  | .ok b e => k b e
  | .ex x e => Q (Out.ex x e)
  | .no => Q Out.no
def oK {α : Type} (o : Option α) (N : Prop) (k : α → Prop) (_ : Pin (N, k) := ⟨⟩) : Prop := match o with | some a => k a | none => N
def iteK (b : Bool) (A B : Prop) (_ : Pin (A, B) := ⟨⟩) : Prop := if b = true then A else B
def rK (r : R) (Q : R → Prop) (_ : Pin (r, Q) := ⟨⟩) : Prop := Q r
section
variable {Q : γ → Prop}
theorem Zaa {k : D → Env' → Prop} {d e} : bK Q k (.ok (.d d) e) = k d e := rfl
theorem Zab {k : D → Env' → Prop} {xs e} : bK Q k (.ok (.o (.l xs)) e) = k (.lst xs) e := rfl
theorem Zac {k : D → Env' → Prop} {x e} : bK Q k (.ex x e) = Q (Out.ex x e) := rfl
theorem Zad {k : D → Env' → Prop} : bK Q k .no = Q Out.no := rfl
theorem Zae {k : RV → Env' → Prop} {r e} : rvK Q k (.ok r e) = k r e := rfl
theorem Zaf {k : RV → Env' → Prop} {x e} : rvK Q k (.ex x e) = Q (Out.ex x e) := rfl
theorem Zag {k : RV → Env' → Prop} : rvK Q k .no = Q Out.no := rfl
theorem Zah {k : Bool → Env' → Prop} {r e} : tK Q k (.ok r e) = k r e := rfl
theorem Zai {k : Bool → Env' → Prop} {x e} : tK Q k (.ex x e) = Q (Out.ex x e) := rfl
theorem Zaj {k : Bool → Env' → Prop} : tK Q k .no = Q Out.no := rfl
theorem Zak {k : List AV → Env' → Prop} {r e} : aK Q k (.ok r e) = k r e := rfl
theorem Zal {k : List AV → Env' → Prop} {x e} : aK Q k (.ex x e) = Q (Out.ex x e) := rfl
theorem Zam {k : List AV → Env' → Prop} : aK Q k .no = Q Out.no := rfl
theorem Zan {k : List D → Env' → Prop} {r e} : iK Q k (.ok r e) = k r e := rfl
theorem Zao {k : List D → Env' → Prop} {x e} : iK Q k (.ex x e) = Q (Out.ex x e) := rfl
theorem Zap {k : List D → Env' → Prop} : iK Q k .no = Q Out.no := rfl
theorem Zaq {α : Type} {a : α} {N : Prop} {k : α → Prop} : oK (some a) N k = k a := rfl
theorem Zar {α : Type} {N : Prop} {k : α → Prop} : oK none N k = N := rfl
theorem Zas {A B : Prop} : iteK true A B = A := rfl
theorem Zat {A B : Prop} : iteK false A B = B := rfl
theorem Zjz : (Out.ex : Ex → Env' → R) = R.ex := rfl
theorem Zka : (Out.ex : Ex → Env' → RT) = RT.ex := rfl
theorem Zkb : (Out.ex : Ex → Env' → RA) = RA.ex := rfl
theorem Zkc : (Out.ex : Ex → Env' → RS) = RS.ex := rfl
theorem Zkd : (Out.ex : Ex → Env' → RI) = RI.ex := rfl
end
theorem R_bind_wp {r : R} {k : D → Env' → R} {Q : R → Prop} : Q (r.bind k) = bK Q (fun d e => Q (k d e)) r := by
  cases r with
  | ok r e => cases r with
    | d d => rfl
    | o o => cases o <;> rfl
  | _ => rfl
theorem R_bindT_wp {r : R} {k : D → Env' → RT} {Q : RT → Prop} : Q (r.bindT k) = bK Q (fun d e => Q (k d e)) r := by
  cases r with
  | ok r e => cases r with
    | d d => rfl
    | o o => cases o <;> rfl
  | _ => rfl
theorem R_bindA_wp {r : R} {k : D → Env' → RA} {Q : RA → Prop} : Q (r.bindA k) = bK Q (fun d e => Q (k d e)) r := by
  cases r with
  | ok r e => cases r with
    | d d => rfl
    | o o => cases o <;> rfl
  | _ => rfl
theorem R_bindS_wp {r : R} {k : D → Env' → RS} {Q : RS → Prop} : Q (r.bindS k) = bK Q (fun d e => Q (k d e)) r := by
  cases r with
  | ok r e => cases r with
    | d d => rfl
    | o o => cases o <;> rfl
  | _ => rfl
theorem R_bindR_wp {r : R} {k : RV → Env' → RS} {Q : RS → Prop} : Q (r.bindR k) = rvK Q (fun d e => Q (k d e)) r := by cases r <;> rfl
theorem RT_bind_wp {r : RT} {k : Bool → Env' → R} {Q : R → Prop} : Q (r.bind k) = tK Q (fun d e => Q (k d e)) r := by cases r <;> rfl
theorem RT_bindT_wp {r : RT} {k : Bool → Env' → RT} {Q : RT → Prop} : Q (r.bindT k) = tK Q (fun d e => Q (k d e)) r := by cases r <;> rfl
theorem RT_bindS_wp {r : RT} {k : Bool → Env' → RS} {Q : RS → Prop} : Q (r.bindS k) = tK Q (fun d e => Q (k d e)) r := by cases r <;> rfl
theorem RA_bind_wp {r : RA} {k : List AV → Env' → R} {Q : R → Prop} : Q (r.bind k) = aK Q (fun d e => Q (k d e)) r := by cases r <;> rfl
theorem RA_bindI_wp {r : RA} {k : List AV → Env' → RI} {Q : RI → Prop} : Q (r.bindI k) = aK Q (fun d e => Q (k d e)) r := by cases r <;> rfl

def getN (e : Env') (i : Nat) (k : SV → Prop) (N : Prop) (_ : Pin (e, i, k, N) := ⟨⟩) : Prop := match e[i]? with | some x => k x | none => N
theorem getN_k {e : Env'} {i : Nat} {k k' : SV → Prop} {N : Prop} (h : k = k') : getN e i k N = getN e i k' N := by rw [h]
def setN (e : Env') (i : Nat) (x : SV) (k : Env' → Prop) (N : Prop) (_ : Pin (e, i, x, k, N) := ⟨⟩) : Prop := if canSet e i then k (e.set i x) else N
def putN (e : Env') (i : Nat) (x : SV) (k : Env' → Prop) (_ : Pin (e, i, x, k) := ⟨⟩) : Prop := k (e.set i x)
theorem Zau {a e k N} : getN (a :: e) 0 k N = k a := rfl
theorem Zav {a e i k N} : getN (a :: e) (i + 1) k N = getN e i k N := rfl
theorem Zaw {e x k N} : setN (.un :: e) 0 x k N = k (x :: e) := rfl
theorem Zax {d e x k N} : setN (.val d :: e) 0 x k N = k (x :: e) := rfl
theorem Zay {o e x k N} : setN (.own false o :: e) 0 x k N = k (x :: e) := rfl
theorem Zdh {a e x k N} (h : Fr1 a) : setN (a :: e) 0 x k N = k (x :: e) := by rcases h with rfl | ⟨d, rfl⟩ <;> rfl
theorem Zaz {a e i x k N} : setN (a :: e) (i + 1) x k N = setN e i x (fun e => k (a :: e)) N := by
  unfold setN canSet
  simp only [List.getElem?_cons_succ, List.set]
theorem Zba {a e x k} : putN (a :: e) 0 x k = k (x :: e) := rfl
theorem Zbb {a e i x k} : putN (a :: e) (i + 1) x k = putN e i x (fun e => k (a :: e)) := rfl

section
variable {e : Env'} {Q : R → Prop} {QT : RT → Prop} {QA : RA → Prop} {QI : RI → Prop} {f g h : Env' → R} {fa : Env' → RA} {t u : Env' → RT}
def svK (e : Env') (i : Nat) (Q : R → Prop) : SV → Prop
  | .val d => Q (.ok (.d d) e)
  | .own false (.l xs) => putN e i (.val (.lst xs)) fun e' => Q (.ok (.d (.lst xs)) e')
  | _ => Q .no
theorem Zbc {i d} : svK e i Q (.val d) = Q (.ok (.d d) e) := rfl
theorem Zbd {i xs} : svK e i Q (.own false (.l xs)) = putN e i (.val (.lst xs)) fun e' => Q (.ok (.d (.lst xs)) e') := rfl
theorem Zbe {d} : wp (cK d) e Q = Q (.ok (.d d) e) := rfl
theorem Zbf {i} : wp (cV i) e Q = getN e i (svK e i Q) (Q .no) := by
  unfold wp cV getN svK putN
  cases e[i]? with
  | none => rfl
  | some x => cases x with
    | un => rfl
    | val d => rfl
    | own b o => cases b <;> cases o <;> rfl
theorem Zbg {p : D → D → Env' → R} : wp (two p f g) e Q = wp f e (bK Q fun x e1 => wp g e1 (bK Q fun y e2 => rK (p x y e2) Q)) := by
  unfold wp two
  refine (R_bind_wp (Q := Q)).trans ?_
  congr 1
  funext x e1
  refine (R_bind_wp (Q := Q)).trans ?_
  rfl
theorem Zbh {p x y} : rK (ofOp p x y e) Q = oK (p x y) (Q .no) fun r => Q (.ok r e) := by
  unfold rK ofOp oK
  cases p x y <;> rfl
theorem Zbi {p} : wp (cOp p f g) e Q = wp f e (bK Q fun x e1 => wp g e1 (bK Q fun y e2 => oK (p x y) (Q .no) fun r => Q (.ok r e2))) := by
  unfold cOp
  rw [Zbg]
  refine wp_k (congrArg (bK Q) ?_)
  funext x e1
  refine wp_k (congrArg (bK Q) ?_)
  funext y e2
  exact Zbh
theorem Zbj : wp (cTr f) e QT = wp f e (bK QT fun d e1 => oK (truthD d) (QT .no) fun b => QT (.ok b e1)) := by
  unfold wp cTr
  refine (R_bindT_wp (Q := QT)).trans ?_
  congr 1
  funext d e1
  unfold oK
  cases truthD d <;> rfl
theorem Zbk : wp (cAndT t u) e QT = wp t e (tK QT fun b e1 => iteK b (wp u e1 QT) (QT (.ok false e1))) := by
  unfold wp cAndT
  refine (RT_bindT_wp (Q := QT)).trans ?_
  congr 1
  funext b e1
  cases b <;> rfl
theorem Zbl : wp (cOrT t u) e QT = wp t e (tK QT fun b e1 => iteK b (QT (.ok true e1)) (wp u e1 QT)) := by
  unfold wp cOrT
  refine (RT_bindT_wp (Q := QT)).trans ?_
  congr 1
  funext b e1
  cases b <;> rfl
theorem Zbm : wp (cNotT t) e QT = wp t e (tK QT fun b e1 => QT (.ok (!b) e1)) := by
  unfold wp cNotT
  exact RT_bindT_wp (Q := QT)
theorem Zbn : wp cYes e QT = QT (.ok true e) := rfl
def bolK (Q : R → Prop) (k : Bool → Prop) : D → Prop
  | .bl b => k b
  | _ => Q .no
theorem Zbo {k b} : bolK Q k (.bl b) = k b := rfl
theorem Zbp : wp (cAnd f g) e Q = wp f e (bK Q fun d e1 => bolK Q (fun b => iteK b (wp g e1 Q) (Q (.ok (.d (.bl false)) e1))) d) := by
  unfold wp cAnd asB
  refine (R_bind_wp (Q := Q)).trans ?_
  congr 1
  funext d e1
  cases d with
  | bl b => cases b <;> rfl
  | _ => rfl
theorem Zbq : wp (cOr f g) e Q = wp f e (bK Q fun d e1 => bolK Q (fun b => iteK b (Q (.ok (.d (.bl true)) e1)) (wp g e1 Q)) d) := by
  unfold wp cOr asB
  refine (R_bind_wp (Q := Q)).trans ?_
  congr 1
  funext d e1
  cases d with
  | bl b => cases b <;> rfl
  | _ => rfl
theorem Zbr : wp (cNot f) e Q = wp f e (bK Q fun d e1 => bolK Q (fun b => Q (.ok (.d (.bl (!b))) e1)) d) := by
  unfold wp cNot asB
  refine (R_bind_wp (Q := Q)).trans ?_
  congr 1
  funext d e1
  cases d <;> rfl
theorem Zbs : wp (cIf t f g) e Q = wp t e (tK Q fun b e1 => iteK b (wp f e1 Q) (wp g e1 Q)) := by
  unfold wp cIf
  refine (RT_bind_wp (Q := Q)).trans ?_
  congr 1
  funext b e1
  cases b <;> rfl
theorem Zbt : wp cA0 e QA = QA (.ok [] e) := rfl
theorem Zbu : wp (cAd f fa) e QA = wp f e (bK QA fun d e1 => wp fa e1 (aK QA fun as e2 => QA (.ok (.d d :: as) e2))) := by
  unfold wp cAd
  refine (R_bindA_wp (Q := QA)).trans ?_
  congr 1
  funext d e1
  cases fa e1 <;> rfl
def ownK (N : Prop) (k : OB → Prop) : SV → Prop
  | .own _ o => k o
  | _ => N
theorem Zbv {N k b o} : ownK N k (.own b o) = k o := rfl
theorem Zbw {i} : wp (cAs i fa) e QA = getN e i (ownK (QA .no) fun _ => wp fa e (aK QA fun as e2 => QA (.ok (.s i :: as) e2))) (QA .no) := by
  unfold wp cAs getN ownK
  cases e[i]? with
  | none => rfl
  | some x => cases x with
    | own b o => cases fa e <;> rfl
    | _ => rfl
theorem Zbx : wp (cTup fa) e Q = wp fa e (aK Q fun as e1 => oK (avD as) (Q .no) fun ds => iteK (decide (ds.length ≤ 16777216)) (Q (.ok (.d (.tup ds)) e1)) (Q .no)) := by
  unfold wp cTup
  refine (RA_bind_wp (Q := Q)).trans ?_
  congr 1
  funext as e1
  unfold oK iteK
  cases avD as with
  | none => rfl
  | some ds =>
    by_cases h : ds.length ≤ 16777216
    · simp only [h, if_true, decide_true]
    · simp only [h, if_false, decide_false, Bool.false_eq_true]
theorem Zby : wp (cLst fa) e Q = wp fa e (aK Q fun as e1 => oK (avD as) (Q .no) fun ds => iteK (decide (ds.length ≤ 16777216)) (Q (.ok (.o (.l ds)) e1)) (Q .no)) := by
  unfold wp cLst
  refine (RA_bind_wp (Q := Q)).trans ?_
  congr 1
  funext as e1
  unfold oK iteK
  cases avD as with
  | none => rfl
  | some ds =>
    by_cases h : ds.length ≤ 16777216
    · simp only [h, if_true, decide_true]
    · simp only [h, if_false, decide_false, Bool.false_eq_true]
theorem Zbz : avD [] = some [] := rfl
theorem Zca {a} : avD [.d a] = some [a] := rfl
theorem Zcb {a b} : avD [.d a, .d b] = some [a, b] := rfl
theorem Zcc {a b c} : avD [.d a, .d b, .d c] = some [a, b, c] := rfl
theorem Zcd {a b c d} : avD [.d a, .d b, .d c, .d d] = some [a, b, c, d] := rfl
theorem Zce : wp (cIx f g) e Q = wp f e (bK Q fun x e1 => wp g e1 (bK Q fun y e2 => oK (ixD x y) (Q .no) fun d => Q (.ok (.d d) e2))) := by
  unfold cIx
  rw [Zbg]
  refine wp_k (congrArg (bK Q) ?_)
  funext x e1
  refine wp_k (congrArg (bK Q) ?_)
  funext y e2
  unfold rK oK
  cases ixD x y <;> rfl
def olK (N : Prop) (k : List D → Prop) : SV → Prop
  | .own _ (.l xs) => k xs
  | _ => N
theorem Zcf {N k b xs} : olK N k (.own b (.l xs)) = k xs := rfl
theorem withO_wp {i r} : Q (withO i e r) = getN e i (olK (Q .no) fun _ => Q r) (Q .no) := by
  unfold withO getN olK
  cases e[i]? with
  | none => rfl
  | some x => cases x with
    | own b o => cases o <;> rfl
    | _ => rfl
def intK (N : Prop) (k : Int → Prop) : D → Prop
  | .int i => k i
  | _ => N
theorem Zcg {N k i} : intK N k (.int i) = k i := rfl
theorem Zch {i} : wp (cIxO i g) e Q = getN e i (olK (Q .no) fun _ => wp g e (bK Q fun d e1 => getN e1 i (olK (Q .no) fun xs => intK (Q .no) (fun j => oK (atI xs j) (Q .no) fun y => Q (.ok (.d y) e1)) d) (Q .no))) (Q .no) := by
  unfold wp cIxO
  refine (withO_wp (Q := Q)).trans ?_
  refine getN_k (congrArg (olK (Q .no)) ?_)
  funext _
  refine (R_bind_wp (Q := Q)).trans ?_
  congr 1
  funext d e1
  unfold getN olK intK oK
  cases e1[i]? with
  | none => rfl
  | some x => cases x with
    | own b o => cases o with
      | l xs => cases d with
        | int j => cases h : atI xs j <;> simp [h]
        | _ => rfl
      | _ => rfl
    | _ => rfl
theorem Zci {p} : wp (cBi p fa) e Q = wp fa e (aK Q fun as e1 => oK (avD as) (Q .no) fun ds => oK (p ds) (Q .no) fun r => Q (.ok r e1)) := by
  unfold wp cBi
  refine (RA_bind_wp (Q := Q)).trans ?_
  congr 1
  funext as e1
  unfold oK
  cases avD as with
  | none => rfl
  | some ds => cases h : p ds <;> simp [h]
theorem Zcj {i} : wp (cLenO i) e Q = getN e i (olK (Q .no) fun xs => Q (.ok (.d (.int xs.length)) e)) (Q .no) := by
  unfold wp cLenO getN olK
  cases e[i]? with
  | none => rfl
  | some x => cases x with
    | own b o => cases o <;> rfl
    | _ => rfl
theorem Zck : wp (cNeg f) e Q = wp f e (bK Q fun d e1 => intK (Q .no) (fun i => Q (.ok (.d (.int (-i))) e1)) d) := by
  unfold wp cNeg
  refine (R_bind_wp (Q := Q)).trans ?_
  congr 1
  funext d e1
  cases d <;> rfl
theorem Zco {M} : wp (cIsi M f) e Q = wp f e (bK Q fun d e1 => oK (M.lookup (kd d)) (Q .no) fun b => Q (.ok (.d (.bl b)) e1)) := by
  unfold wp cIsi
  refine (R_bind_wp (Q := Q)).trans ?_
  congr 1
  funext d e1
  unfold oK
  cases h : M.lookup (kd d) <;> simp [h]
def objK (N : Prop) (k : Nat → List D → Prop) : D → Prop
  | .obj c xs => k c xs
  | _ => N
theorem Zcp {N k c xs} : objK N k (.obj c xs) = k c xs := rfl
theorem Zcq {al} : wp (cFld al f) e Q = wp f e (bK Q fun d e1 => objK (Q .no) (fun c xs => oK (al.lookup c) (Q .no) fun k => oK xs[k]? (Q .no) fun y => Q (.ok (.d y) e1)) d) := by
  unfold wp cFld
  refine (R_bind_wp (Q := Q)).trans ?_
  congr 1
  funext d e1
  cases d with
  | obj c xs =>
    unfold objK oK
    dsimp only
    cases al.lookup c with
    | none => rfl
    | some k => cases h : xs[k]? <;> simp [h]
  | _ => rfl
def outK (Q : R → Prop) (avs : List AV) (e : Env') : RF → Prop
  | .ok r outs => Q (.ok r (putA 0 e outs avs))
  | .ex x outs => Q (.ex x (putA 0 e outs avs))
  | .no => Q .no
def fK (r : RF) (Q : R → Prop) (avs : List AV) (e : Env') (_ : Pin (Q, avs, e) := ⟨⟩) : Prop := outK Q avs e r
def svsK (o : Option (List SV)) (φ : Fn) (dds : List D) (avs : List AV) (e : Env') (Q : R → Prop) (_ : Pin (o, φ, dds, avs, e, Q) := ⟨⟩) : Prop :=
  match o with
  | some as => if (slots avs).Nodup then fK (φ (as ++ dds.map .val)) Q avs e else Q .no
  | none => Q .no
theorem callR_wp {φ dds avs} : Q (callR φ dds avs e) = svsK (svs e avs) φ dds avs e Q := by
  unfold callR svsK fK outK
  cases svs e avs with
  | none => rfl
  | some as =>
    dsimp only
    by_cases h : (slots avs).Nodup
    · rw [if_pos h, if_pos h]
      cases φ (as ++ List.map SV.val dds) <;> rfl
    · rw [if_neg h, if_neg h]
theorem Zct {φ dds} : svsK (svs e []) φ dds [] e Q = fK (φ (dds.map .val)) Q [] e := rfl
theorem Zcu {φ dds a} : svsK (svs e [.d a]) φ dds [.d a] e Q = fK (φ (.val a :: dds.map .val)) Q [.d a] e := rfl
theorem Zcv {φ dds a b} : svsK (svs e [.d a, .d b]) φ dds [.d a, .d b] e Q = fK (φ (.val a :: .val b :: dds.map .val)) Q [.d a, .d b] e := rfl
theorem Zcw {φ dds a b c} : svsK (svs e [.d a, .d b, .d c]) φ dds [.d a, .d b, .d c] e Q = fK (φ (.val a :: .val b :: .val c :: dds.map .val)) Q [.d a, .d b, .d c] e := rfl
theorem Zcx {φ dds a b c d} : svsK (svs e [.d a, .d b, .d c, .d d]) φ dds [.d a, .d b, .d c, .d d] e Q = fK (φ (.val a :: .val b :: .val c :: .val d :: dds.map .val)) Q [.d a, .d b, .d c, .d d] e := rfl
theorem Zcy {φ dds a b c d x} : svsK (svs e [.d a, .d b, .d c, .d d, .d x]) φ dds [.d a, .d b, .d c, .d d, .d x] e Q = fK (φ (.val a :: .val b :: .val c :: .val d :: .val x :: dds.map .val)) Q [.d a, .d b, .d c, .d d, .d x] e := rfl
theorem Zcz {φ dds a b c d x y} : svsK (svs e [.d a, .d b, .d c, .d d, .d x, .d y]) φ dds [.d a, .d b, .d c, .d d, .d x, .d y] e Q = fK (φ (.val a :: .val b :: .val c :: .val d :: .val x :: .val y :: dds.map .val)) Q [.d a, .d b, .d c, .d d, .d x, .d y] e := rfl
theorem Zcr {φ dds avs} : rK (callR φ dds avs e) Q = svsK (svs e avs) φ dds avs e Q := callR_wp
theorem Zcs {φ dds} : wp (cCall φ dds fa) e Q = wp fa e (aK Q fun as e1 => svsK (svs e1 as) φ dds as e1 Q) := by
  unfold wp cCall
  refine (RA_bind_wp (Q := Q)).trans ?_
  congr 1
  funext as e1
  exact callR_wp
def lentO (e : Env') (i : Nat) : Option OB := match e[i]? with | some (.own _ o) => some o | _ => none
theorem Zdf {b o e} : lentO (.own b o :: e) 0 = some o := rfl
theorem Zdg {a e i} : lentO (a :: e) (i + 1) = lentO e i := rfl
theorem svs_s {i as} : svs e (.s i :: as) = (lentO e i).bind fun o => (svs e as).map (SV.own true o :: ·) := by
  show (match e[i]? with | some (SV.own _ o) => (svs e as).map (SV.own true o :: ·) | _ => none) = _
  unfold lentO
  cases e[i]? with
  | none => rfl
  | some x => cases x <;> rfl
theorem cs_ {φ dds i} {as : List AV} {l : List SV} (h0 : slots as = []) (h : svs e as = some l) : svsK (svs e (.s i :: as)) φ dds (.s i :: as) e Q = oK (lentO e i) (Q .no) fun o => fK (φ (.own true o :: (l ++ dds.map .val))) Q (.s i :: as) e := by
  rw [svs_s, h]
  cases q : lentO e i with
  | none => rfl
  | some o =>
    show svsK (some (.own true o :: l)) φ dds (.s i :: as) e Q = fK (φ (.own true o :: (l ++ dds.map .val))) Q (.s i :: as) e
    exact if_pos (by show (i :: slots as).Nodup; rw [h0]; simp)
theorem Zda {φ dds i} : svsK (svs e [.s i]) φ dds [.s i] e Q = oK (lentO e i) (Q .no) fun o => fK (φ (.own true o :: dds.map .val)) Q [.s i] e := cs_ (as := []) (l := []) rfl rfl
theorem Zdb {φ dds i a} : svsK (svs e [.s i, .d a]) φ dds [.s i, .d a] e Q = oK (lentO e i) (Q .no) fun o => fK (φ (.own true o :: .val a :: dds.map .val)) Q [.s i, .d a] e := cs_ (as := [.d a]) (l := [.val a]) rfl rfl
theorem Zdc {φ dds i a b} : svsK (svs e [.s i, .d a, .d b]) φ dds [.s i, .d a, .d b] e Q = oK (lentO e i) (Q .no) fun o => fK (φ (.own true o :: .val a :: .val b :: dds.map .val)) Q [.s i, .d a, .d b] e := cs_ (as := [.d a, .d b]) (l := [.val a, .val b]) rfl rfl
theorem Zdd {φ dds i a b c} : svsK (svs e [.s i, .d a, .d b, .d c]) φ dds [.s i, .d a, .d b, .d c] e Q = oK (lentO e i) (Q .no) fun o => fK (φ (.own true o :: .val a :: .val b :: .val c :: dds.map .val)) Q [.s i, .d a, .d b, .d c] e := cs_ (as := [.d a, .d b, .d c]) (l := [.val a, .val b, .val c]) rfl rfl
theorem Zde {φ dds i a b c d} : svsK (svs e [.s i, .d a, .d b, .d c, .d d]) φ dds [.s i, .d a, .d b, .d c, .d d] e Q = oK (lentO e i) (Q .no) fun o => fK (φ (.own true o :: .val a :: .val b :: .val c :: .val d :: dds.map .val)) Q [.s i, .d a, .d b, .d c, .d d] e := cs_ (as := [.d a, .d b, .d c, .d d]) (l := [.val a, .val b, .val c, .val d]) rfl rfl
theorem svsK_s {as φ dds avs} (h : (slots avs).Nodup) : svsK (some as) φ dds avs e Q = fK (φ (as ++ dds.map .val)) Q avs e := if_pos h
theorem nod_d {a as} : (slots (.d a :: as)).Nodup = (slots as).Nodup := rfl
theorem nod_0 : (slots []).Nodup = True := eq_true List.nodup_nil
def putK (n : Nat) (e : Env') (outs : List (Nat × OB)) (avs : List AV) (K : Env' → Prop) (_ : Pin (n, e, outs, avs, K) := ⟨⟩) : Prop := K (putA n e outs avs)
theorem Zdi {r outs avs} : fK (.ok r outs) Q avs e = putK 0 e outs avs fun e1 => Q (.ok r e1) := rfl
theorem Zdj {x outs avs} : fK (.ex x outs) Q avs e = putK 0 e outs avs fun e1 => Q (.ex x e1) := rfl
theorem putA_nil : ∀ (avs : List AV) (n : Nat) (e : Env'), putA n e [] avs = e
  | [], _, _ => rfl
  | .d _ :: as, n, e => putA_nil as (n + 1) e
  | .s i :: as, n, e => by
    unfold putA
    simp only [List.lookup_nil]
    exact putA_nil as (n + 1) e
theorem Zdk {n avs K} : putK n e [] avs K = K e := by unfold putK; rw [putA_nil]
theorem putA_drop {k : Nat} {o : OB} : ∀ (avs : List AV) (n : Nat) (e : Env') (outs : List (Nat × OB)), k < n → putA n e ((k, o) :: outs) avs = putA n e outs avs
  | [], _, _, _, _ => rfl
  | .d _ :: as, n, e, outs, h => putA_drop as (n + 1) e outs (by omega)
  | .s i :: as, n, e, outs, h => by
    unfold putA
    rw [List.lookup_cons, show (n == k) = false by simp; omega]
    exact putA_drop as (n + 1) _ outs (by omega)
def ownPut (e : Env') (i : Nat) (o : OB) (K : Env' → Prop) (_ : Pin (e, i, o, K) := ⟨⟩) : Prop := K (setO e i o)
theorem Zdl {b o' e o K} : ownPut (.own b o' :: e) 0 o K = K (.own b o :: e) := rfl
theorem Zdm {a e i o K} : ownPut (a :: e) (i + 1) o K = ownPut e i o fun e => K (a :: e) := by
  unfold ownPut setO
  simp only [List.getElem?_cons_succ]
  cases e[i]? with
  | none => rfl
  | some x => cases x <;> rfl
theorem Zdn {n outs d avs K} : putK n e outs (.d d :: avs) K = putK (n + 1) e outs avs K := rfl
theorem Zdo {n o outs i avs K} : putK n e ((n, o) :: outs) (.s i :: avs) K = ownPut e i o fun e => putK (n + 1) e outs avs K := by
  unfold putK ownPut
  rw [show putA n e ((n, o) :: outs) (.s i :: avs) = putA (n + 1) (setO e i o) ((n, o) :: outs) avs by
    conv => lhs; unfold putA
    rw [List.lookup_cons_self]]
  rw [putA_drop _ _ _ _ (Nat.lt_succ_self n)]
theorem Zdp {c φ dds} : wp (cMeth c φ dds f fa) e Q = wp f e (bK Q fun d e1 => objK (Q .no) (fun c' xs => iteK (decide (c' = c)) (wp fa e1 (aK Q fun as e2 => svsK (svs e2 (.d (.obj c' xs) :: as)) φ dds (.d (.obj c' xs) :: as) e2 Q)) (Q .no)) d) := by
  unfold wp cMeth
  refine (R_bind_wp (Q := Q)).trans ?_
  congr 1
  funext d e1
  cases d with
  | obj c' xs =>
    unfold objK iteK
    dsimp only
    by_cases h : c' = c
    · subst h
      simp only [if_true, decide_true]
      refine (RA_bind_wp (Q := Q)).trans ?_
      congr 1
      funext as e2
      exact callR_wp
    · simp only [h, if_false, decide_false, Bool.false_eq_true]
  | _ => rfl
def okK (Q : R → Prop) : R → Prop
  | .ok r e => Q (.ok r e)
  | _ => Q .no
theorem Zfn {r} : okK Q (.ok r e) = Q (.ok r e) := rfl
theorem Zdq {c φ} : wp (cProp c φ f) e Q = wp f e (bK Q fun d e1 => objK (Q .no) (fun c' xs => iteK (decide (c' = c)) (fK (φ [.val (.obj c' xs)]) (okK Q) [.d (.obj c' xs)] e1) (Q .no)) d) := by
  unfold wp cProp
  refine (R_bind_wp (Q := Q)).trans ?_
  congr 1
  funext d e1
  cases d with
  | obj c' xs =>
    unfold objK iteK fK outK
    dsimp only
    by_cases h : c' = c
    · subst h
      simp only [if_true, decide_true]
      refine Eq.trans (b := (okK Q) (callR φ [] [.d (.obj c' xs)] e1)) ?_ ?_
      · cases callR φ [] [.d (.obj c' xs)] e1 <;> rfl
      · refine (callR_wp (Q := okK Q)).trans ?_
        exact svsK_s (by rw [nod_d, nod_0]; trivial)
    · simp only [h, if_false, decide_false, Bool.false_eq_true]
  | _ => rfl
def mkK (c nf : Nat) (Q : R → Prop) (e : Env') : RF → Prop
  | .ok (.d .non) outs => (match outs.lookup 0 with | some (.s c' xs) => if c' = c ∧ xs.length = nf then Q (.ok (.d (.obj c xs)) e) else Q .no | _ => Q .no)
  | .ok _ _ => Q .no
  | .ex x _ => Q (.ex x e)
  | .no => Q .no
def makeK (r : RF) (c nf : Nat) (Q : R → Prop) (e : Env') (_ : Pin (Q, e) := ⟨⟩) : Prop := mkK c nf Q e r
theorem Zdr {c nf xs} (h : xs.length = nf) : makeK (.ok (.d .non) [(0, .s c xs)]) c nf Q e = Q (.ok (.d (.obj c xs)) e) := by
  unfold makeK mkK
  simp [h]
theorem Zds {c nf x outs} : makeK (.ex x outs) c nf Q e = Q (.ex x e) := rfl
theorem Zdt {c nf φ dds} : wp (cMake c nf φ dds fa) e Q = wp fa e (aK Q fun as e1 => oK (avD as) (Q .no) fun ds => makeK (φ (.own true (.s c []) :: (ds.map .val ++ dds.map .val))) c nf Q e1) := by
  unfold wp cMake
  refine (RA_bind_wp (Q := Q)).trans ?_
  congr 1
  funext as e1
  unfold makeR oK makeK mkK
  cases avD as with
  | none => rfl
  | some ds =>
    dsimp only
    cases φ (.own true (.s c []) :: (ds.map .val ++ dds.map .val)) with
    | ok r outs =>
      cases r with
      | d d =>
        cases d with
        | non =>
          dsimp only
          cases outs.lookup 0 with
          | none => rfl
          | some o => cases o with
            | l _ => rfl
            | s c' xs =>
              dsimp only
              by_cases h : c' = c ∧ xs.length = nf
              · rw [if_pos h, if_pos h]
              · rw [if_neg h, if_neg h]
        | _ => rfl
      | o o => rfl
    | _ => rfl
theorem Zdu {M q a y} : rK (pOwn M q (.int a) y e) Q = oK (q (.int a) y) (Q .no) fun r => Q (.ok r e) := Zbh
theorem Zdv {M q a y} : rK (pOwn M q (.str a) y e) Q = oK (q (.str a) y) (Q .no) fun r => Q (.ok r e) := Zbh
theorem Zdw {M q a y} : rK (pOwn M q (.tup a) y e) Q = oK (q (.tup a) y) (Q .no) fun r => Q (.ok r e) := Zbh
theorem Zdx {M q a y} : rK (pOwn M q (.lst a) y e) Q = oK (q (.lst a) y) (Q .no) fun r => Q (.ok r e) := Zbh
theorem Zdy {M q a y} : rK (pOwn M q (.bl a) y e) Q = oK (q (.bl a) y) (Q .no) fun r => Q (.ok r e) := Zbh
theorem Zdz {M q y} : rK (pOwn M q .non y e) Q = oK (q .non y) (Q .no) fun r => Q (.ok r e) := Zbh
theorem Zea {M q c xs ys} : rK (pOwn M q (.obj c xs) (.obj c ys) e) Q = oK (M.lookup c) (Q .no) fun φ => fK (φ [.val (.obj c xs), .val (.obj c ys)]) Q [.d (.obj c xs), .d (.obj c ys)] e := by
  rw [own_oo]
  unfold oK rK
  cases M.lookup c with
  | none => rfl
  | some φ =>
    refine (callR_wp (Q := Q)).trans ?_
    exact svsK_s (by rw [nod_d, nod_d, nod_0]; trivial)
theorem Zeb {neg M q a y} : rK (pEqM neg M q (.int a) y e) Q = oK (q (.int a) y) (Q .no) fun r => Q (.ok r e) := Zbh
theorem Zec {neg M q a y} : rK (pEqM neg M q (.str a) y e) Q = oK (q (.str a) y) (Q .no) fun r => Q (.ok r e) := Zbh
theorem Zed {neg M q a y} : rK (pEqM neg M q (.tup a) y e) Q = oK (q (.tup a) y) (Q .no) fun r => Q (.ok r e) := Zbh
theorem Zee {neg M q a y} : rK (pEqM neg M q (.lst a) y e) Q = oK (q (.lst a) y) (Q .no) fun r => Q (.ok r e) := Zbh
theorem Zef {neg M q a y} : rK (pEqM neg M q (.bl a) y e) Q = oK (q (.bl a) y) (Q .no) fun r => Q (.ok r e) := Zbh
theorem Zeg {neg M q y} : rK (pEqM neg M q .non y e) Q = oK (q .non y) (Q .no) fun r => Q (.ok r e) := Zbh
def btK (neg : Bool) (Q : R → Prop) : R → Prop := fun r => Q (r.boolTo neg)
theorem Zeh {neg Q e b} : btK neg Q (.ok (.d (.bl b)) e) = Q (.ok (.d (.bl (if neg then !b else b))) e) := rfl
def inK (k : Nat) (l : List Nat) : Bool := decide (k ∈ l)
theorem Zla {k l} : inK k (k :: l) = true := decide_eq_true (List.mem_cons_self ..)
theorem Zlb {k j l} (h : (k == j) = false) : inK k (j :: l) = inK k l := by
  unfold inK
  have h' : k ≠ j := by simpa using h
  simp [h']
def prK (k : Fn → List Nat → Prop) : Fn × List Nat → Prop := fun p => k p.1 p.2
theorem Zen {k a b} : prK k (a, b) = k a b := rfl
theorem Zei {neg M q c xs y} : rK (pEqM neg M q (.obj c xs) y e) Q = oK (M.lookup c) (Q .no) (prK fun φ ks => iteK (inK (kd y) ks) (fK (φ [.val (.obj c xs), .val y]) (btK neg Q) [.d (.obj c xs), .d y] e) (Q .no)) := by
  unfold rK pEqM oK prK inK
  dsimp only
  cases M.lookup c with
  | none => rfl
  | some p =>
    obtain ⟨φ, ks⟩ := p
    dsimp only
    unfold iteK
    by_cases h : kd y ∈ ks
    · simp only [h, if_true, decide_true]
      refine (callR_wp (Q := btK neg Q)).trans ?_
      exact svsK_s (by rw [nod_d, nod_d, nod_0]; trivial)
    · simp only [h, if_false, decide_false, Bool.false_eq_true]
theorem Zfg : wp (iD f) e QI = wp f e (bK QI fun d e1 => oK (itemsD d) (QI .no) fun ds => QI (.ok ds e1)) := by
  unfold wp iD oK
  cases f e with
  | ok r e1 => cases r with
    | d d =>
      unfold bK
      dsimp only
      cases h : itemsD d <;> rfl
    | o o => cases o <;> rfl
  | _ => rfl
def l1K (N : Prop) (k : Int → Prop) : List Int → Prop
  | [j] => k j
  | _ => N
theorem Zfl {N k j} : l1K N k [j] = k j := rfl
def l2K (N : Prop) (k : Int → Int → Prop) : List Int → Prop
  | [i, j] => k i j
  | _ => N
theorem Zfm {N k i j} : l2K N k [i, j] = k i j := rfl
theorem Zfh : wp (iR1 fa) e QI = wp fa e (aK QI fun as e1 => oK (avI as) (QI .no) fun l => l1K (QI .no) (fun j => iteK (smI j) (QI (.ok (rngD 0 j) e1)) (QI .no)) l) := by
  unfold wp iR1
  refine (RA_bindI_wp (Q := QI)).trans ?_
  congr 1
  funext as e1
  unfold oK iteK
  cases avI as with
  | none => rfl
  | some l => match l with
    | [] => rfl
    | [j] => by_cases h : smI j = true <;> simp [h, l1K]
    | _ :: _ :: _ => rfl
theorem Zfi : wp (iR2 fa) e QI = wp fa e (aK QI fun as e1 => oK (avI as) (QI .no) fun l => l2K (QI .no) (fun i j => iteK (smI i && smI j) (QI (.ok (rngD i j) e1)) (QI .no)) l) := by
  unfold wp iR2
  refine (RA_bindI_wp (Q := QI)).trans ?_
  congr 1
  funext as e1
  unfold oK iteK
  cases avI as with
  | none => rfl
  | some l => match l with
    | [] => rfl
    | [j] => rfl
    | [i, j] => by_cases h : (smI i && smI j) = true <;> simp only [h, if_true, if_false, Bool.false_eq_true, l2K]
    | _ :: _ :: _ :: _ => rfl
theorem Zfj {i} : avI [.d (.int i)] = some [i] := rfl
theorem Zfk {i j} : avI [.d (.int i), .d (.int j)] = some [i, j] := rfl
end
section
variable {e : Env'} {Q : RS → Prop} {f g h : Env' → R} {fa : Env' → RA} {c : Env' → RT} {t u : Env' → RS}
def seqK (u : Env' → RS) (Q : RS → Prop) : RS → Prop
  | .nx e => wp u e Q
  | r => Q r
theorem Zfo : seqK u Q (.nx e) = wp u e Q := rfl
theorem Zfp {r} : seqK u Q (.rt r e) = Q (.rt r e) := rfl
theorem Zfq {r} : seqK u Q (.ex r e) = Q (.ex r e) := rfl
theorem Zfr : seqK u Q (.bk e) = Q (.bk e) := rfl
theorem Zfs : seqK u Q (.ct e) = Q (.ct e) := rfl
theorem Zft : seqK u Q .no = Q .no := rfl
theorem Zfu : wp (sSeq t u) e Q = wp t e (seqK u Q) := by
  unfold wp sSeq seqK
  cases t e <;> rfl
theorem Zfv : wp sNx e Q = Q (.nx e) := rfl
theorem Zfw : wp sBk e Q = Q (.bk e) := rfl
theorem Zfx : wp sCt e Q = Q (.ct e) := rfl
theorem Zfy : wp (sDrop f) e Q = wp f e (rvK Q fun _ e1 => Q (.nx e1)) := R_bindR_wp
theorem Zfz : wp (sRet f) e Q = wp f e (rvK Q fun r e1 => Q (.rt r e1)) := R_bindR_wp
theorem Zga : wp sRetN e Q = Q (.rt (.d .non) e) := rfl
def ofalK (N : Prop) (k : OB → Prop) : SV → Prop
  | .own false o => k o
  | _ => N
theorem Zgb {N k o} : ofalK N k (.own false o) = k o := rfl
theorem Zgc {i} : wp (sRetO i) e Q = getN e i (ofalK (Q .no) fun o => putN e i .un fun e1 => Q (.rt (.o o) e1)) (Q .no) := by
  unfold wp sRetO getN ofalK putN
  cases e[i]? with
  | none => rfl
  | some x => cases x with
    | own b o => cases b <;> rfl
    | _ => rfl
theorem Zgd : wp (sIf c t u) e Q = wp c e (tK Q fun b e1 => iteK b (wp t e1 Q) (wp u e1 Q)) := by
  unfold wp sIf
  refine (RT_bindS_wp (Q := Q)).trans ?_
  congr 1
  funext b e1
  cases b <;> rfl
theorem Zge {i} : wp (sSet i f) e Q = wp f e (bK Q fun d e1 => setN e1 i (.val d) (fun e2 => Q (.nx e2)) (Q .no)) := by
  unfold wp sSet
  refine (R_bindS_wp (Q := Q)).trans ?_
  congr 1
  funext d e1
  unfold setN
  split <;> rfl
def rv2 (r : RV) (k : SV → Prop) (_ : Pin (r, k) := ⟨⟩) : Prop := k (ofR r)
theorem Zgf {d k} : rv2 (.d d) k = k (.val d) := rfl
theorem Zgg {d k} : rv2 (.o d) k = k (.own false d) := rfl
theorem Zgh {i} : wp (sSetO i f) e Q = wp f e (rvK Q fun r e1 => rv2 r fun x => setN e1 i x (fun e2 => Q (.nx e2)) (Q .no)) := by
  unfold wp sSetO
  refine (R_bindR_wp (Q := Q)).trans ?_
  congr 1
  funext d e1
  unfold setN rv2
  split <;> rfl
def oE (o : Option Env') (N : Prop) (k : Env' → Prop) : Prop := match o with | some e => k e | none => N
def gK (h : D → Env' → Option Env') (d : D) (e : Env') (k : Env' → Prop) (N : Prop) (_ : Pin (h, d, e, k, N) := ⟨⟩) : Prop := oE (h d e) N k
def gsK (h : List D → Env' → Option Env') (d : List D) (e : Env') (k : Env' → Prop) (N : Prop) (_ : Pin (h, d, e, k, N) := ⟨⟩) : Prop := oE (h d e) N k
theorem Zgi {i d k N} : gK (gN i) d e k N = setN e i (.val d) k N := by
  unfold gK gN oE setN
  by_cases h : canSet e i = true <;> simp [h]
theorem Zgj {n h ds k N} (hl : ds.length = n) : gK (gT n h) (.tup ds) e k N = gsK h ds e k N := by
  unfold gK gT gsK oE
  dsimp only
  rw [if_pos hl]
theorem Zgk {k N} : gsK g0 [] e k N = k e := rfl
theorem Zgl {h h' d ds k N} : gsK (gC h h') (d :: ds) e k N = gK h d e (fun e1 => gsK h' ds e1 k N) N := by
  unfold gsK gC gK oE
  dsimp only
  cases h d e with
  | none => rfl
  | some e1 => rfl
theorem Zgm {h} : wp (sAsg f h) e Q = wp f e (bK Q fun d e1 => gK h d e1 (fun e2 => Q (.nx e2)) (Q .no)) := by
  unfold wp sAsg
  refine (R_bindS_wp (Q := Q)).trans ?_
  congr 1
  funext d e1
  unfold gK oE
  cases h d e1 <;> rfl
theorem Zgn {fi h} : wp (sFor fi h t) e Q = wp fi e (iK Q fun ds e1 => wp (forL h t ds) e1 Q) := by
  unfold wp sFor
  cases fi e <;> rfl
theorem Zgo {h} : wp (forL h t []) e Q = Q (.nx e) := rfl
def lpK (N : Env' → Prop) (Q : RS → Prop) : RS → Prop
  | .nx e => N e
  | .ct e => N e
  | .bk e => Q (.nx e)
  | .rt r e => Q (.rt r e)
  | .ex x e => Q (.ex x e)
  | .no => Q .no
section
variable {N : Env' → Prop}
theorem Zgq : lpK N Q (.nx e) = N e := rfl
theorem Zgr : lpK N Q (.ct e) = N e := rfl
theorem Zgs : lpK N Q (.bk e) = Q (.nx e) := rfl
theorem Zgt {r} : lpK N Q (.rt r e) = Q (.rt r e) := rfl
theorem Zgu {r} : lpK N Q (.ex r e) = Q (.ex r e) := rfl
theorem Zgv : lpK N Q .no = Q .no := rfl
end
theorem Zgp {h d ds} : wp (forL h t (d :: ds)) e Q = gK h d e (fun e1 => wp t e1 (lpK (fun e2 => wp (forL h t ds) e2 Q) Q)) (Q .no) := by
  unfold wp gK oE
  conv => lhs; unfold forL
  cases h d e with
  | none => rfl
  | some e1 =>
    dsimp only
    cases t e1 <;> rfl
theorem for_inv {h} {ds : List D} (P : List D → Env' → Prop) (h0 : P [] e) (st : ∀ d ds1 ds2 e, ds = ds1 ++ d :: ds2 → P ds1 e → gK h d e (fun e1 => wp t e1 (lpK (fun e2 => P (ds1 ++ [d]) e2) Q)) (Q .no)) (fin : ∀ e, P ds e → Q (.nx e)) : wp (forL h t ds) e Q := by
  suffices ∀ (r ds1 : List D) (e : Env'), ds = ds1 ++ r → P ds1 e → wp (forL h t r) e Q from this ds [] e rfl h0
  intro r
  induction r with
  | nil =>
    intro ds1 e hd p
    rw [Zgo]
    refine fin e ?_
    rw [hd, List.append_nil]
    exact p
  | cons d r ih =>
    intro ds1 e hd p
    rw [Zgp]
    have := st d ds1 r e hd p
    unfold gK oE at this ⊢
    cases hh : h d e with
    | none => rw [hh] at this; exact this
    | some e1 =>
      rw [hh] at this
      dsimp only at this ⊢
      unfold wp at this ⊢
      cases ht : t e1 with
      | nx e2 => rw [ht] at this; exact ih (ds1 ++ [d]) e2 (by rw [hd]; simp) this
      | ct e2 => rw [ht] at this; exact ih (ds1 ++ [d]) e2 (by rw [hd]; simp) this
      | bk e2 => rw [ht] at this; exact this
      | rt r e2 => rw [ht] at this; exact this
      | ex x e2 => rw [ht] at this; exact this
      | no => rw [ht] at this; exact this
theorem for_n {h} {n : Nat} {F : Nat → D} (P : Nat → Env' → Prop) (h0 : P 0 e) (st : ∀ i e, i < n → P i e → gK h (F i) e (fun e1 => wp t e1 (lpK (fun e2 => P (i + 1) e2) Q)) (Q .no)) (fin : ∀ e, P n e → Q (.nx e)) : wp (forL h t ((List.range n).map F)) e Q := by
  refine for_inv (fun l e => P l.length e) h0 (fun d ds1 ds2 e hd p => ?_) (fun e p => fin e (by simpa using p))
  have hl : ds1.length < n := by
    have := congrArg List.length hd
    simp at this
    omega
  have hF : d = F ds1.length := by
    have := congrArg (fun l => l[ds1.length]?) hd
    simp [hl] at this
    exact this.symm
  have := st ds1.length e hl p
  rw [← hF] at this
  rw [show (ds1 ++ [d]).length = ds1.length + 1 by simp]
  exact this
theorem wh_inv {n : Env' → Nat} (P : Env' → Prop) (m : Env' → Nat) (h0 : P e) (hm : m e < n e) (st : ∀ e, P e → wp c e (tK Q fun b e1 => iteK b (wp t e1 (lpK (fun e2 => P e2 ∧ m e2 < m e) Q)) (Q (.nx e1)))) : wp (sWh n c t) e Q := by
  suffices ∀ (k : Nat) (e : Env'), P e → m e < k → wp (whL c t k) e Q from this _ e h0 hm
  intro k
  induction k with
  | zero => intro e _ h; omega
  | succ k ih =>
    intro e p hk
    have := st e p
    unfold wp at this ⊢
    unfold whL
    cases hc : c e with
    | no => rw [hc] at this; exact this
    | ex x e1 => rw [hc] at this; exact this
    | ok b e1 =>
      rw [hc] at this
      cases b with
      | false => exact this
      | true =>
        dsimp only
        unfold tK iteK at this
        dsimp only at this
        rw [if_pos rfl] at this
        cases ht : t e1 with
        | nx e2 => rw [ht] at this; exact ih e2 this.1 (by have := this.2; omega)
        | ct e2 => rw [ht] at this; exact ih e2 this.1 (by have := this.2; omega)
        | bk e2 => rw [ht] at this; exact this
        | rt r e2 => rw [ht] at this; exact this
        | ex x e2 => rw [ht] at this; exact this
        | no => rw [ht] at this; exact this
theorem Zgw {i} {f : Env' → R} {Q : R → Prop} : wp (cApp i f) e Q = getN e i (olK (Q .no) fun _ => wp f e (bK Q fun d e1 => getN e1 i (olK (Q .no) fun xs => iteK (decide (xs.length < 16777216)) (ownPut e1 i (.l (xs ++ [d])) fun e2 => Q (.ok (.d .non) e2)) (Q .no)) (Q .no))) (Q .no) := by
  unfold wp cApp
  refine (withO_wp (Q := Q)).trans ?_
  refine getN_k (congrArg (olK (Q .no)) ?_)
  funext _
  refine (R_bind_wp (Q := Q)).trans ?_
  congr 1
  funext d e1
  unfold getN olK ownPut setO iteK
  cases h : e1[i]? with
  | none => rfl
  | some x => cases x with
    | own b o => cases o with
      | l xs => by_cases hl : xs.length < 16777216 <;> simp [hl]
      | _ => rfl
    | _ => rfl
theorem Zgx {i} {fv fi : Env' → R} : wp (sSub i fv fi) e Q = wp fv e (bK Q fun d e1 => getN e1 i (olK (Q .no) fun _ => wp fi e1 (bK Q fun j e2 => getN e2 i (olK (Q .no) fun xs => intK (Q .no) (fun k => oK (ixN xs.length k) (Q .no) fun j => ownPut e2 i (.l (xs.set j d)) fun e3 => Q (.nx e3)) j) (Q .no))) (Q .no)) := by
  unfold wp sSub
  refine (R_bindS_wp (Q := Q)).trans ?_
  congr 1
  funext d e1
  cases h : e1[i]? with
  | none => simp [getN, h]
  | some x => cases x with
    | own b o => cases o with
      | l xs =>
        simp only [getN, h, olK]
        refine (R_bindS_wp (Q := Q)).trans ?_
        congr 1
        funext j e2
        cases h2 : e2[i]? with
        | none => rfl
        | some x2 => cases x2 with
          | own b2 o2 => cases o2 with
            | l ys => cases j with
              | int k =>
                unfold intK oK ownPut setO
                dsimp only
                cases hk : ixN ys.length k with
                | none => rfl
                | some z => simp [h2]
              | _ => rfl
            | _ => rfl
          | _ => rfl
      | s c xs => simp [getN, h, olK]
    | un => simp [getN, h, olK]
    | val d => simp [getN, h, olK]
end
end
end L2.S

set_option Elab.async false
set_option linter.all false
set_option maxRecDepth 100000
set_option maxHeartbeats 4000000
namespace L2.S
open PySem PySem.Spec PyProof.Rows
def endsAs (D : Ends) : Option Nat → Ends
  | none => D
  | some i => ⟨fun τ J => D.nx (τ.set i none) J, D.rt, fun τ J => D.bk (τ.set i none) J, fun τ J => D.ct (τ.set i none) J⟩
def slotAs (τ : St) (x : Addr) : Option Nat → St
  | none => τ
  | some i => τ.set i (some (.ref x))
abbrev HdS := Addr → Value → Option Addr → TS
def wMix (K : PySem.W.Frag) (Wo : WX) (D : Ends) : List (Value × Option Nat × HdS) → WX
  | [] => Wo
  | (cv, m, ts) :: l => fun cl dd τ J => ∃ k, PySem.W.exmOne K cl cv = some k ∧ (k = true → ∀ x, J x = none → ts x cl dd (endsAs D m) (slotAs τ x m) J) ∧ (k = false → wMix K Wo D l cl dd τ J)
def NamAt (X : Cx) : Option Str → Option Nat → Prop
  | none, none => True
  | some n, some i => X.N[i]? = some n ∧ X.env.kindOf n = some .local
  | _, _ => False
inductive HdMix (X : Cx) : List ExceptHandler → List (Value × Option Nat × HdS) → Prop
  | nil : HdMix X [] []
  | cons {x : Str} {cv : Value} {ts : HdS} {st : Stmt} {rest : List Stmt} {p1 p2 : Pos} {nm : Option Str} {m : Option Nat} {hds : List ExceptHandler} {l : List (Value × Option Nat × HdS)} (nc : Names X x cv) (na : NamAt X nm m)
      (su : ∀ (x : Addr) (ob : Obj) (cl : Value) (dd : Option Addr) (pn : List (Addr × Obj)), Zc cl dd ob → (∃ vs, ob.data = .fields vs) → PSs (X.suite x ((x, ob) :: pn)) (st :: rest) (ts x cl dd)) (r : HdMix X hds l) :
      HdMix X (.ExceptHandler (some (.Name x p1)) nm (st :: rest) p2 :: hds) ((cv, m, ts) :: l)
section
variable {X : Cx} {body : List Stmt} {hd0 : ExceptHandler} {hds : List ExceptHandler} {l : List (Value × Option Nat × HdS)} {pos : Pos} {tb : WX → TS} {Wo : WX}
theorem ps_try_mix (st : X.stack = X.env :: X.outer) (fr : X.env.frame = some X.env.locals) (nd : X.N.Nodup) (tk : Takes X Wo)
    (hb : ∀ (W : WX) (pn : List (Addr × Obj)) (xe : Value → Shared → Prop), Takes (X.tr pn xe) W → PassesOwn (model X.prog X.w) X.A X.env xe → PSs (X.tr pn xe) body (tb W))
    (hh : HdMix X (hd0 :: hds) l) : PS X (.Try body (hd0 :: hds) [] [] pos) (fun D τ J => tb (wMix X.K Wo D l) D τ J) := by
  refine ⟨fun pins s τ J D I h => ?_⟩
  have ok := I.ok
  have afr : X.A.frames = some (X.env :: X.outer) := by
    rw [ok.frames]
    rw [st]
  refine wpAny_Try_except ?_
  let after : Value → Shared → Prop := fun e z1 => wpAny (model X.prog X.w) X.A (noteFrame e X.env)
    (fun _ z2 => wpAny (model X.prog X.w) X.A (setFlight e none)
      (fun _ z3 => wpAny (model X.prog X.w) X.A (handleBy e X.env (hd0 :: hds)) (SP X pins D) X.xe z3) X.xe z2) X.xe z1
  have run := (hb (wMix X.K Wo D l) (X.pn ++ pins) after (fun u z xx => ?_) PassesOwn.looking).run [] s τ J D (I.toTry _) h
  · refine wpAny_mono run (fun f z sp => ?_) (fun e z q => q)
    cases f with
    | next =>
      obtain ⟨τ1, J1, I1, q⟩ := sp
      exact wpAny_execs_nil ⟨τ1, J1, I1.ofTry ok, q⟩
    | brk =>
      obtain ⟨τ1, J1, I1, q⟩ := sp
      exact ⟨τ1, J1, I1.ofTry ok, q⟩
    | cont =>
      obtain ⟨τ1, J1, I1, q⟩ := sp
      exact ⟨τ1, J1, I1.ofTry ok, q⟩
    | ret u =>
      obtain ⟨v, τ1, J1, I1, r, q⟩ := sp
      exact ⟨v, τ1, J1, I1.ofTry ok, r, q⟩
  · -- what was caught
    obtain ⟨x, Bb, sB, pB, τ1, J1, cl, dd, rfl, I0, nb, up, sky0, nx, oo, agr, wm⟩ := xx
    have I1 : Inv X pins τ1 J1 sB := I0.ofTry ok
    have sky1 : Sky Bb (X.env :: X.outer) x (Zc cl dd) X.env.locals z.heap := by
      rw [← st]
      exact sky0
    show wpAny (model X.prog X.w) X.A (noteFrame (.ref x) X.env) _ _ _
    refine Sky.land Zc.steady afr fr sky1 fun g3 in3 u3 => ?_
    have I3 : Inv X pins τ1 J1 { z with heap := g3 } := I1.landed nb in3.1 (up.trans u3) oo agr
    obtain ⟨ob3, w3, get3, z3, dat3⟩ := in3.there
    have away : x ∉ frs (X.env :: X.outer) := fun hm => by
      obtain ⟨_, ob', get', hn⟩ := in3.2.2.1.mem hm
      rw [get3] at get'
      cases get'
      exact hn _ dat3
    have awL : x ≠ X.env.locals := fun e => away (List.mem_filterMap.mpr ⟨X.env, List.mem_cons_self, by rw [fr, e]⟩)
    have awF : x ∉ X.fs := fun hm => by
      obtain ⟨en, hen, q⟩ := List.mem_filterMap.mp hm
      exact away (List.mem_filterMap.mpr ⟨en, List.mem_cons_of_mem _ hen, q⟩)
    have S3 := I3.suite get3 dat3 nx awL awF
    suffices go : ∀ {hs2 : List ExceptHandler} {l2 : List (Value × Option Nat × HdS)}, HdMix X hs2 l2 → wMix X.K Wo D l2 cl dd τ1 J1 →
        wpAny (model X.prog X.w) X.A (handleBy (.ref x) X.env hs2) (SP X pins D) X.xe { z with heap := g3 } from go hh wm
    intro hs2 l2 hk
    induction hk with
    | nil =>
      intro w
      refine wpAny_handleBy_nil ?_
      obtain ⟨_, _, _, ob, wv, F, oF, tb', gt, zz, dt, at1, _⟩ := id in3
      unfold PySem.passOn
      refine wpAny_bind (wpAny_field gt dt at1 ?_)
      rw [if_neg (show ¬ ((Value.ref F == Value.none) = true) from by simp)]
      have out : wpAny (model X.prog X.w) X.A (setFlight (.ref x) X.env.frame)
          (fun _ z4 => wpAny (model X.prog X.w) X.A (throw (.ref x) : Sem Flow) (SP X pins D) X.xe z4) X.xe { z with heap := g3 } := by
        rw [fr]
        refine HandSPX.setFlight_upZ in3 fun g4 fl4 u4 => wpAny_throw (tk _ _ ?_)
        exact ⟨x, Bb, sB, pins, τ1, J1, cl, dd, rfl, I1, nb, (up.trans u3).trans u4, .inr (.inr (by rw [st]; exact fl4)), nx, oo, agr, w⟩
      first
        | exact wpAny_bind (wpAny_pure (wpAny_bind out))
        | exact wpAny_bind out
    | @cons y cv ts s0 rest p1 p2 nm m hs3 l3 nc na su r ih =>
      intro w
      obtain ⟨k, ek, yes, no⟩ := w
      refine wpAny_handleBy_cons (codeAny_handlers_test ?_) (by intro q; cases q)
      have ty : PySem.W.Looks (model X.prog X.w) g3 (typeOf (.ref x)) cl := fun A Q E s kk q => wpAny_typeOf_ref (kk _ _ get3) (by
        rw [z3.1]
        exact q)
      have look := PySem.W.exm_one (M := model X.prog X.w) (I3.kIn) ty ek
      have told : ∀ {Q : Value → Shared → Prop} {E : Value → Shared → Prop}, Q cv { z with heap := g3 } →
          wpAny (model X.prog X.w) (X.A.mark (some (.ref x))) (eval (.Name y p1) X.env) Q E { z with heap := g3 } := fun {Q E} q => by
        obtain ⟨gl, nd1, e1 | ⟨e1, e2, e3⟩⟩ := nc
        · exact ld_glob (X := X.suite x ((x, ob3) :: (X.pn ++ pins))) S3 gl e1 q nd1
        · exact ld_blt (X := X.suite x ((x, ob3) :: (X.pn ++ pins))) S3 gl e1 e2 q e3 nd1
      refine told (look.here ?_)
      cases k with
      | false =>
        show wpAny _ X.A (handleBy (.ref x) X.env hs3) _ _ _
        exact ih (no rfl)
      | true =>
        cases nm with
        | none =>
          cases m with
          | some i => exact na.elim
          | none =>
            refine codeAny_handlers_suite ?_
            refine HandSPX.lands_againZ in3 fun g4 in4 u4 => ?_
            have I4 : Inv X pins τ1 J1 { z with heap := g4 } := I1.landed nb in4.1 ((up.trans u3).trans u4) oo agr
            obtain ⟨ob4, w4, get4, z4, dat4⟩ := in4.there
            have S4 := I4.suite get4 dat4 nx awL awF
            refine wpAny_mono ((su x ob4 cl dd (X.pn ++ pins) z4 ⟨_, dat4⟩).run [] _ _ J1 _ S4 (yes rfl x nx)) (fun f z6 sp => ?_) (fun _ _ q => q.elim)
            cases f with
            | next =>
              obtain ⟨τ6, J6, S6, q⟩ := sp
              exact ⟨_, _, S6.unsuite ok, q⟩
            | brk =>
              obtain ⟨τ6, J6, S6, q⟩ := sp
              exact ⟨_, _, S6.unsuite ok, q⟩
            | cont =>
              obtain ⟨τ6, J6, S6, q⟩ := sp
              exact ⟨_, _, S6.unsuite ok, q⟩
            | ret u =>
              obtain ⟨v6, τ6, J6, S6, r6, q⟩ := sp
              exact ⟨_, _, _, S6.unsuite ok, r6, q⟩
        | some n =>
          cases m with
          | none => exact na.elim
          | some i =>
            obtain ⟨hN, hl⟩ := na
            refine codeAny_handlers_suite_as ?_
            refine HandSPX.lands_againZ in3 fun g4 in4 u4 => ?_
            have I4 : Inv X pins τ1 J1 { z with heap := g4 } := I1.landed nb in4.1 ((up.trans u3).trans u4) oo agr
            obtain ⟨ob4, w4, get4, z4, dat4⟩ := in4.there
            have S4 := I4.suite get4 dat4 nx awL awF
            refine store_ok (X := X.suite x ((x, ob4) :: (X.pn ++ pins))) (v := .ref x) S4 nd hN (.inl hl) rfl (fun z5 S5 => ?_) (.inr hl)
            refine wpAny_mono ((su x ob4 cl dd (X.pn ++ pins) z4 ⟨_, dat4⟩).run [] z5 _ J1 _ S5 (yes rfl x nx)) (fun f z6 sp => ?_) (fun _ _ q => q.elim)
            have over : ∀ {τ6 : St} {J6 : Hp} {Q : Shared → Prop}, Inv (X.suite x ((x, ob4) :: (X.pn ++ pins))) [] τ6 J6 z6 → (∀ z7, Inv X pins (τ6.set i none) J6 z7 → Q z7) →
                wpAny (model X.prog X.w) X.A (do bindName X.env n .none; unbindBehindTheSuite X.env n p2) (fun _ z7 => Q z7) X.xe z6 := fun {τ6 J6 Q} S6 hq => gone_ok (S6.unsuite ok) nd hN hl hq
            cases f with
            | next =>
              obtain ⟨τ6, J6, S6, q⟩ := sp
              exact over S6 fun z7 I7 => ⟨_, _, I7, q⟩
            | brk =>
              obtain ⟨τ6, J6, S6, q⟩ := sp
              exact over S6 fun z7 I7 => ⟨_, _, I7, q⟩
            | cont =>
              obtain ⟨τ6, J6, S6, q⟩ := sp
              exact over S6 fun z7 I7 => ⟨_, _, I7, q⟩
            | ret u =>
              obtain ⟨v6, τ6, J6, S6, r6, q⟩ := sp
              exact over S6 fun z7 I7 => ⟨_, _, _, I7, r6, q⟩
end

structure XP where
  a : Addr
  d : Option Addr
  c : Nat
abbrev HdF := XP → Env' → RS
def delE (e : Env') : Option Nat → Env'
  | none => e
  | some i => e.set i .un
def okM (m : Option Nat) (e : Env') : Bool := match m with | some i => canSet e i | none => true
def delS (m : Option Nat) : RS → RS
  | .nx e => if okM m e then .nx (delE e m) else .no
  | .bk e => if okM m e then .bk (delE e m) else .no
  | .ct e => if okM m e then .ct (delE e m) else .no
  | .rt r e => if okM m e then .rt r (delE e m) else .no
  | .ex _ _ => .no
  | .no => .no
noncomputable def uAll (f : Addr → Option Addr → RS) : RS := open Classical in if h : ∃ r, ∀ a d, f a d = r then h.choose else .no
theorem uAll_spec {f : Addr → Option Addr → RS} (h : uAll f ≠ .no) : ∀ a d, f a d = uAll f := by
  unfold uAll at h ⊢
  split
  · rename_i q
    exact q.choose_spec
  · rename_i q
    rw [dif_neg q] at h
    exact (h rfl).elim
theorem uAll_at {f : Addr → Option Addr → RS} {r : RS} (h : ∀ a d, f a d = r) : uAll f = r := by
  unfold uAll
  rw [dif_pos ⟨r, h⟩]
  exact ((Exists.choose_spec (p := fun r => ∀ a d, f a d = r) ⟨r, h⟩) 0 none).symm.trans (h 0 none)
def setX (m : Option Nat) (x : Ex) (a : Addr) (d : Option Addr) (e : Env') : Env' := match m with | none => e | some i => e.set i (.val (.exv a d x.c x.fs))
abbrev HdP := List (Nat × Bool) × Option Nat × HdF
noncomputable def hsGo : List HdP → Ex → Env' → RS
  | [], x, e => .ex x e
  | (M, m, u) :: l, x, e => match M.lookup x.c with
    | some true => if okM m e then uAll (fun a d => delS m (u ⟨a, d, x.c⟩ (setX m x a d e))) else .no
    | some false => hsGo l x e
    | none => .no
noncomputable def sTryM (l : List HdP) (t : Env' → RS) : Env' → RS := fun env => match t env with
  | .ex x e => hsGo l x e
  | r => r
section
variable {T : Tb} {G : Gd} {B : List (Nat × Addr)} {Z H : Hp} {σ : St} {env : Env'} {i : Nat}
theorem EOk.wipe1 (E : EOk T G B Z H σ env) (h : canSet env i = true) : EOk T G B Z H (σ.set i none) (env.set i .un) := by
  have nb : ∀ o, env[i]? ≠ some (.own true o) := fun o z => by
    unfold canSet at h
    rw [z] at h
    cases h
  have hi : i < env.length := by
    cases q : env[i]? with
    | none => unfold canSet at h; rw [q] at h; cases h
    | some w => exact (List.getElem?_eq_some_iff.mp q).1
  have own' : ∀ j b, Own (σ.set i none) (env.set i .un) j b → j ≠ i ∧ Own σ env j b := fun j b ⟨⟨b1, o, q⟩, q2⟩ => by
    by_cases hj : i = j
    · subst hj
      rw [List.getElem?_set_self hi] at q
      cases q
    · rw [List.getElem?_set_ne hj] at q q2
      exact ⟨fun z => hj z.symm, ⟨b1, o, q⟩, q2⟩
  refine ⟨by rw [List.length_set, List.length_set]; exact E.len, E.sub, E.nof, E.keep, fun j d q => ?_, fun j b o q => ?_, fun j b q => ?_, fun j k b n o1 o2 => E.dis j k b n (own' j b o1).2 (own' k b o2).2⟩
  · by_cases hj : i = j
    · subst hj
      rw [List.getElem?_set_self hi] at q
      cases q
    · rw [List.getElem?_set_ne hj] at q ⊢
      exact E.val j d q
  · by_cases hj : i = j
    · subst hj
      rw [List.getElem?_set_self hi] at q
      cases q
    · rw [List.getElem?_set_ne hj] at q
      obtain ⟨a, ho, q1, q2⟩ := E.own j b o q
      exact ⟨a, ho, by rw [List.getElem?_set_ne hj]; exact q1, q2⟩
  · obtain ⟨⟨o2, q1⟩, q2⟩ := E.bor j b q
    have hj : i ≠ j := fun z => nb o2 (by rw [z]; exact q1)
    exact ⟨⟨o2, by rw [List.getElem?_set_ne hj]; exact q1⟩, by rw [List.getElem?_set_ne hj]; exact q2⟩
theorem RRep.wipe1 {v : V} {r : RV} (hi : canSet env i = true) (h : RRep T G Z H σ env v r) : RRep T G Z H (σ.set i none) (env.set i .un) v r := by
  have hi : i < env.length := by
    cases q : env[i]? with
    | none => unfold canSet at hi; rw [q] at hi; cases hi
    | some w => exact (List.getElem?_eq_some_iff.mp q).1
  cases r with
  | d d => exact h
  | o o =>
    obtain ⟨a, ho, e1, e2, e3, e4, e5, e6⟩ := h
    refine ⟨a, ho, e1, e2, e3, e4, e5, fun j ⟨⟨b, o', q⟩, q2⟩ => ?_⟩
    by_cases hj : i = j
    · subst hj
      rw [List.getElem?_set_self hi] at q
      cases q
    · rw [List.getElem?_set_ne hj] at q q2
      exact e6 j ⟨⟨b, o', q⟩, q2⟩
theorem prs_del {K : Ends} {m : Option Nat} {Wo : WX} {r : RS} (h : PRS T Wo G B Z K (delS m r)) : PRS T W0 G B Z (endsAs K m) r := by
  cases r with
  | ex x e => exact h.elim
  | no => exact h.elim
  | nx e =>
    cases m with
    | none => exact h
    | some i =>
      have h : PRS T Wo G B Z K (if canSet e i = true then .nx (e.set i .un) else .no) := h
      by_cases hc : canSet e i = true
      · rw [if_pos hc] at h
        exact fun σ' H' Z' s E => h _ H' Z' s (E.wipe1 hc)
      · rw [if_neg hc] at h
        exact h.elim
  | bk e =>
    cases m with
    | none => exact h
    | some i =>
      have h : PRS T Wo G B Z K (if canSet e i = true then .bk (e.set i .un) else .no) := h
      by_cases hc : canSet e i = true
      · rw [if_pos hc] at h
        exact fun σ' H' Z' s E => h _ H' Z' s (E.wipe1 hc)
      · rw [if_neg hc] at h
        exact h.elim
  | ct e =>
    cases m with
    | none => exact h
    | some i =>
      have h : PRS T Wo G B Z K (if canSet e i = true then .ct (e.set i .un) else .no) := h
      by_cases hc : canSet e i = true
      · rw [if_pos hc] at h
        exact fun σ' H' Z' s E => h _ H' Z' s (E.wipe1 hc)
      · rw [if_neg hc] at h
        exact h.elim
  | rt r e =>
    cases m with
    | none => exact h
    | some i =>
      have h : PRS T Wo G B Z K (if canSet e i = true then .rt r (e.set i .un) else .no) := h
      by_cases hc : canSet e i = true
      · rw [if_pos hc] at h
        exact fun v σ' H' Z' s E rr => h v _ H' Z' s (E.wipe1 hc) (rr.wipe1 hc)
      · rw [if_neg hc] at h
        exact h.elim
end
section
variable {X : Cx} {T : Tb} {W : WX} {body suite : List Stmt} {st : Stmt} {hd0 : ExceptHandler} {hds : List ExceptHandler} {pos : Pos} {t : Env' → RS}
inductive HdsS (X : Cx) (T : Tb) : List ExceptHandler → List HdP → List (Value × Option Nat × HdS) → Prop
  | nil : HdsS X T [] [] []
  | cons {x : Str} {cv : Value} {u : HdF} {st : Stmt} {rest : List Stmt} {p1 p2 : Pos} {nm : Option Str} {m : Option Nat} {hds : List ExceptHandler} {M : List (Nat × Bool)} {l : List HdP} {l2 : List (Value × Option Nat × HdS)} (hM : ExmF X.K T cv M) (nc : Names X x cv) (na : NamAt X nm m)
      (su : ∀ (xp : XP) (ob : Obj) (pn : List (Addr × Obj)), Zc (.ref (T.ec xp.c)) xp.d ob → (∃ vs, ob.data = .fields vs) → SSs (X.suite xp.a ((xp.a, ob) :: pn)) T W0 (st :: rest) (u xp)) (r : HdsS X T hds l l2) :
      HdsS X T (.ExceptHandler (some (.Name x p1)) nm (st :: rest) p2 :: hds) ((M, m, u) :: l) ((cv, m, fun x cl dd D σ H => ∃ c, cl = .ref (T.ec c) ∧ tXS T W0 (u ⟨x, dd, c⟩) D σ H) :: l2)
theorem HdsS.mix {hds : List ExceptHandler} {l : List HdP} {l2 : List (Value × Option Nat × HdS)} (h : HdsS X T hds l l2) : HdMix X hds l2 := by
  induction h with
  | nil => exact .nil
  | cons hM nc na su r ih => exact .cons nc na (fun x ob cl dd pn hz hf => ⟨fun pins s σ H D I ⟨c, ec, q⟩ => by subst ec; exact (su ⟨x, dd, c⟩ ob pn hz hf).run pins s σ H D I q⟩) ih
theorem hs_wish {G : Gd} {B : List (Nat × Addr)} {Z : Hp} {K : Ends} {hds : List ExceptHandler} {l : List HdP} {l2 : List (Value × Option Nat × HdS)} (h : HdsS X T hds l l2) {x : Ex} {e : Env'} (q : PRS T W G B Z K (hsGo l x e)) :
    ∀ cls d σ' H' Z', Same Z Z' → EOk T G B Z' H' σ' e → XRep T Z' H' cls d x → wMix X.K W K l2 cls d σ' H' := by
  induction h with
  | nil => exact fun cls d σ' H' Z' s E r => q cls d σ' H' Z' s E r
  | @cons y cv u st rest p1 p2 nm m hds M l l2 hM nc na su r ih =>
    intro cls d σ' H' Z' s E rx
    unfold hsGo at q
    cases hl : M.lookup x.c with
    | none => rw [hl] at q; exact q.elim
    | some k =>
      rw [hl] at q
      obtain ⟨ec, rd⟩ := id rx
      refine ⟨k, by rw [ec]; exact hM _ _ hl, fun hk a ha => ?_, fun hk => ?_⟩
      · subst hk
        dsimp only at q
        by_cases hc : okM m e = true
        · rw [if_pos hc] at q
          have hno : uAll (fun a d => delS m (u ⟨a, d, x.c⟩ (setX m x a d e))) ≠ .no := fun z => by rw [z] at q; exact q.elim
          have hu := uAll_spec hno a d
          refine ⟨x.c, ec, G, B, Z', setX m x a d e, ?_, ?_⟩
          · cases m with
            | none => exact E
            | some i =>
              refine E.store (r := .d (.exv a d x.c x.fs)) hc ?_
              show Rep T Z' (.ref a) (.exv a d x.c x.fs)
              rcases rd with ⟨r1, r2, r3⟩ | ⟨dd, vs, r1, r2, r3, r4, r5⟩
              · rw [r2, r3]; exact .exv0
              · rw [r2]; exact .exv r3 r4 r5
          · refine prs_del (Wo := W) ?_
            rw [hu]
            exact PRS.mono s q
        · rw [if_neg hc] at q
          exact q.elim
      · subst hk
        exact ih q cls d σ' H' Z' s E rx
theorem ss_tryM {l : List HdP} {l2 : List (Value × Option Nat × HdS)} (hN : X.N.Nodup) (hh : HdsS X T (hd0 :: hds) l l2) (tk : Takes X W)
    (hb : ∀ (W' : WX) (pn : List (Addr × Obj)) (xe : Value → Shared → Prop), Takes (X.tr pn xe) W' → PassesOwn (model X.prog X.w) X.A X.env xe → SSs (X.tr pn xe) T W' body t)
    (hs : X.stack = X.env :: X.outer := by rfl) (hf : X.env.frame = some X.env.locals := by rfl) :
    SS X T W (.Try body (hd0 :: hds) [] [] pos) (sTryM l t) := by
  refine PS.weak (ps_try_mix (Wo := W) (tb := fun W' => tXS T W' t) hs hf hN tk hb hh.mix) fun K σ H ⟨G, B, Z, env, E, q⟩ => ⟨G, B, Z, env, E, ?_⟩
  unfold sTryM at q
  cases ht : t env with
  | ex y e =>
    rw [ht] at q
    exact hs_wish hh q
  | nx e => rw [ht] at q; exact q
  | bk e => rw [ht] at q; exact q
  | ct e => rw [ht] at q; exact q
  | rt r e => rw [ht] at q; exact q
  | no => rw [ht] at q; exact q.elim
end
section
variable {X : Cx} {T : Tb} {xp : XP} {ob : Obj} {pn : List (Addr × Obj)} {pos p p0 p1 : Pos}
def cXf (xp : XP) (i : Nat) (al : List (Nat × Nat)) : Env' → R := fun env => match env[i]? with
  | some (.val (.exv a d c fs)) => if a = xp.a ∧ d = xp.d ∧ c = xp.c then (match al.lookup c with | some k => (match fs[k]? with | some y => .ok (.d y) env | none => .no) | none => .no) else .no
  | _ => .no
structure XfF (K : PySem.W.Frag) (T : Tb) (al : List (Nat × Nat)) (n : Str) : Prop where
  x : ∀ c k, al.lookup c = some k → XfC K (T.ec c) ∧ PySem.W.findIn K (.ref (T.ec c)) n = some none ∧ (T.ef c)[k]? = some n ∧ (T.ef c).Nodup
theorem zip_at {α β : Type} [BEq α] [LawfulBEq α] : ∀ {l : List α} {vs : List β} {k : Nat} {n : α} {v : β}, l.Nodup → l[k]? = some n → vs[k]? = some v → (l.zip vs).lookup n = some v
  | [], _, _, _, _, _, h, _ => by simp at h
  | _ :: _, [], _, _, _, _, _, h => by simp at h
  | a :: l, b :: vs, 0, n, v, _, h1, h2 => by
    simp at h1 h2
    subst h1; subst h2
    simp
  | a :: l, b :: vs, k + 1, n, v, nd, h1, h2 => by
    have hm : n ∈ l := List.mem_of_getElem? (i := k) (by simpa using h1)
    have hne : (n == a) = false := by
      have : n ≠ a := fun e => (List.nodup_cons.mp nd).1 (by rw [← e]; exact hm)
      simpa using this
    show List.lookup n ((a, b) :: l.zip vs) = some v
    rw [List.lookup_cons, hne]
    exact zip_at (List.nodup_cons.mp nd).2 (by simpa using h1) (by simpa using h2)
theorem se_xf (i : Nat) {x n : Str} {al : List (Nat × Nat)} (F : XfF X.K T al n) (hz : Zc (.ref (T.ec xp.c)) xp.d ob) (hf : ∃ vs, ob.data = .fields vs) (hN : X.N[i]? = some x := by rfl) (hv : Vis X.env.scope x := by first | exact Or.inl rfl | exact Or.inr (Or.inl rfl) | exact Or.inr (Or.inr rfl))
    (hd : (x == ("__debug__" : Str)) = false := by decide) (hcd : (x == ("__classdict__" : Str)) = false := by decide) (hb : attributeBase (.Name x p) n X.env (eval (.Name x p) X.env) = eval (.Name x p) X.env := by rfl) :
    SE (X.suite xp.a ((xp.a, ob) :: pn)) T W0 (.Attribute (.Name x p) n pos) (cXf xp i al) := by
  by_cases hal : ∃ k, al.lookup xp.c = some k
  · obtain ⟨k, hk⟩ := hal
    obtain ⟨F1, F2, F3, F4⟩ := F.x _ _ hk
    refine PE.weak (pe_xf F1 F2 hz hf (pe_var (X := X.suite xp.a ((xp.a, ob) :: pn)) hN hv hd hcd) hb) fun σ H Q ⟨G, B, Z, env, E, q⟩ => ?_
    unfold cXf at q
    split at q
    · rename_i a d c fs hi
      split at q
      · rename_i he
        obtain ⟨rfl, rfl, rfl⟩ := he
        rw [hk] at q
        dsimp only at q
        obtain ⟨v, e1, r⟩ := E.val i _ hi
        cases hy : fs[k]? with
        | none => rw [hy] at q; exact q.elim
        | some y =>
          rw [hy] at q
          generalize hd' : xp.d = dd at r
          cases r with
          | exv0 => simp at hy
          | @exv _ dd vs _ _ hZ hl rs =>
            obtain ⟨w, h1, h2⟩ := rs.get hy
            exact ⟨_, e1, rfl, rfl, dd, _, w, rfl, E.sub _ _ hZ, zip_at F4 F3 h1, q w H Z (Same.refl _) E h2⟩
      · exact q.elim
    · exact q.elim
  · refine ⟨fun pins s σ H Q I ⟨G, B, Z, env, E, q⟩ => ?_⟩
    unfold cXf at q
    split at q
    · rename_i a d c fs hi
      split at q
      · rename_i he
        obtain ⟨rfl, rfl, rfl⟩ := he
        cases hk : al.lookup xp.c with
        | none => rw [hk] at q; exact q.elim
        | some k => exact (hal ⟨k, hk⟩).elim
      · exact q.elim
    · exact q.elim
end
section
variable {X : Cx} {T : Tb} {W : WX} {e : Expr} {es : List Expr} {st : Stmt} {sts : List Stmt} {tg it : Expr}
def cNoE : Env' → R := fun _ => .no
def cNoT : Env' → RT := fun _ => .no
def cNoA : Env' → RA := fun _ => .no
def sNoS : Env' → RS := fun _ => .no
def iNo : Env' → RI := fun _ => .no
end
end L2.S

set_option Elab.async false
set_option linter.all false
set_option maxRecDepth 100000
set_option maxHeartbeats 4000000
namespace L2.S
open PySem PySem.Spec PyProof.Rows
section
variable {X : Cx} {T : Tb} {xp : XP} {ob : Obj} {pn : List (Addr × Obj)} {pos p p0 p1 : Pos}
def DicAt (H : Hp) : Option Addr → Prop
  | none => True
  | some dd => ∃ fs, H dd = some (.xd fs)
def rIsX (K : PySem.W.Frag) (D a : Addr) (d : Option Addr) : List V → Hp → VK → Prop := fun xs H Q => ∃ (c : V) (cv : Value) (b : Bool), xs = [.ref a, c] ∧ ClsV c cv ∧ DicAt H d ∧ PySem.W.kitOne K (.ref D) cv = some b ∧ Q (.bl b) H
def rIsXT (K : PySem.W.Frag) (D a : Addr) (d : Option Addr) : List V → Hp → VK → Prop := fun xs H Q => ∃ (tp : Addr) (cs : List V) (us : List Value) (b : Bool), xs = [.ref a, .ref tp] ∧ H tp = some (.tup cs) ∧ Paired ClsV cs us ∧ DicAt H d ∧ PySem.W.kitAny K (.ref D) us = some b ∧ Q (.bl b) H
def cIsx (xp : XP) (i : Nat) (M : List (Nat × Bool)) : Env' → R := fun env => match env[i]? with
  | some (.val (.exv a d c fs)) => if a = xp.a ∧ d = xp.d ∧ c = xp.c then (match M.lookup c with | some b => .ok (.d (.bl b)) env | none => .no) else .no
  | _ => .no
def IsxF (K : PySem.W.Frag) (T : Tb) (us : List Value) (M : List (Nat × Bool)) : Prop := ∀ c b, M.lookup c = some b → ExcC K (T.ec c) ∧ PySem.W.kitAny K (.ref (T.ec c)) us = some b
end
end L2.S
namespace L2.S
open PySem PySem.Spec PyProof.Rows
theorem xff_0 {K : PySem.W.Frag} {T : Tb} {n : Str} : XfF K T [] n := ⟨fun c k h => by simp at h⟩
theorem xff_c {K : PySem.W.Frag} {T : Tb} {n : Str} {al : List (Nat × Nat)} {c k : Nat} (h1 : XfC K (T.ec c)) (h2 : PySem.W.findIn K (.ref (T.ec c)) n = some none) (h4 : (T.ef c).Nodup) (r : XfF K T al n) (h3 : (T.ef c)[k]? = some n := by rfl) : XfF K T ((c, k) :: al) n := ⟨fun c' k' q => by
  rw [List.lookup_cons] at q
  cases z : c' == c with
  | true =>
    rw [z] at q; cases q
    have := eq_of_beq z
    subst this
    exact ⟨h1, h2, h3, h4⟩
  | false => rw [z] at q; exact r.x c' k' q⟩
end L2.S

set_option Elab.async false
set_option linter.all false
set_option maxRecDepth 100000
set_option maxHeartbeats 4000000
namespace L2.S
section
variable {e : Env'} {Q : R → Prop} {f g h : Env' → R} {fa : Env' → RA} {c : Env' → RT}
def sldK (Q : R → Prop) (e : Env') (c k : Nat) : SV → Prop
  | .own true (.s c' xs) => if c' = c then (match xs[k]? with | some y => Q (.ok (.d y) e) | none => Q .no) else Q .no
  | _ => Q .no
theorem Zgz {c k y xs} (h : xs[k]? = some y) : sldK Q e c k (.own true (.s c xs)) = Q (.ok (.d y) e) := by
  show (if c = c then (match xs[k]? with | some y => Q (.ok (.d y) e) | none => Q .no) else Q .no) = _
  rw [h, if_pos rfl]
theorem Zgy {i c k} : wp (cSfld i c k) e Q = getN e i (sldK Q e c k) (Q .no) := by
  unfold wp cSfld getN sldK
  cases e[i]? with
  | none => rfl
  | some x => cases x with
    | own b o => cases b <;> cases o with
      | l _ => rfl
      | s c' xs =>
        first
          | rfl
          | (dsimp only
             by_cases h : c' = c
             · simp only [h, if_true]
               cases xs[k]? <;> rfl
             · simp only [h, if_false])
    | _ => rfl
end
section
variable {e : Env'} {Q : RS → Prop} {f g h : Env' → R} {c : Env' → RT} {t u : Env' → RS}
def sfdK (Q : RS → Prop) (e : Env') (i c k : Nat) (d : D) : SV → Prop
  | .own true (.s c' xs) => if c' = c ∧ xs.length = k then putN e i (.own true (.s c (xs ++ [d]))) fun e2 => Q (.nx e2) else Q .no
  | _ => Q .no
theorem Zhb {i c k d xs} (h : xs.length = k) : sfdK Q e i c k d (.own true (.s c xs)) = putN e i (.own true (.s c (xs ++ [d]))) fun e2 => Q (.nx e2) := by
  exact if_pos ⟨rfl, h⟩
theorem Zha {i c k} : wp (sFld0 i c k f) e Q = wp f e (bK Q fun d e1 => getN e1 i (sfdK Q e1 i c k d) (Q .no)) := by
  unfold wp sFld0
  refine (R_bindS_wp (Q := Q)).trans ?_
  congr 1
  funext d e1
  unfold getN sfdK putN
  cases e1[i]? with
  | none => rfl
  | some x => cases x with
    | own b o => cases b <;> cases o with
      | l _ => rfl
      | s c' xs =>
        first
          | rfl
          | (dsimp only
             by_cases h : c' = c ∧ xs.length = k
             · rw [if_pos h, if_pos h]
             · rw [if_neg h, if_neg h])
    | _ => rfl
theorem Zhc {c} : wp (sRaise c) e Q = Q (.ex ⟨c, []⟩ e) := rfl
def tryK (l : List HdP) (Q : RS → Prop) : RS → Prop
  | .ex x e => Q (hsGo l x e)
  | r => Q r
theorem Zhd {l} : wp (sTryM l t) e Q = wp t e (tryK l Q) := by
  unfold wp sTryM tryK
  cases t e <;> rfl
section
variable {l : List HdP} {x : Ex}
theorem Zhe : tryK l Q (.nx e) = Q (.nx e) := rfl
theorem Zhf {r} : tryK l Q (.rt r e) = Q (.rt r e) := rfl
theorem Zhg : tryK l Q (.bk e) = Q (.bk e) := rfl
theorem Zhh : tryK l Q (.ct e) = Q (.ct e) := rfl
def hsK (l : List HdP) (x : Ex) (e : Env') (Q : RS → Prop) (_ : Pin (l, x, e, Q) := ⟨⟩) : Prop := Q (hsGo l x e)
theorem Zhi : tryK l Q (.ex x e) = hsK l x e Q := rfl
theorem Zhj : hsK [] x e Q = Q (.ex x e) := rfl
def hs1 (o : Option Bool) (m : Option Nat) (u : HdF) (l : List HdP) (x : Ex) (e : Env') (Q : RS → Prop) (_ : Pin (m, u, l, x, e, Q) := ⟨⟩) : Prop := match o with
  | some true => Q (if okM m e then uAll (fun a d => delS m (u ⟨a, d, x.c⟩ (setX m x a d e))) else .no)
  | some false => hsK l x e Q
  | none => Q .no
theorem Zhk {M m u} : hsK ((M, m, u) :: l) x e Q = hs1 (M.lookup x.c) m u l x e Q := by
  unfold hsK hs1
  conv => lhs; unfold hsGo
  cases M.lookup x.c with
  | none => rfl
  | some b => cases b <;> rfl
theorem Zhl {m u} : hs1 (some false) m u l x e Q = hsK l x e Q := rfl
def delK (m : Option Nat) (Q : RS → Prop) : RS → Prop := fun r => Q (delS m r)
def setXK (m : Option Nat) (x : Ex) (a : PySem.Addr) (d : Option PySem.Addr) (e : Env') (K : Env' → Prop) (_ : Pin (m, x, a, d, e, K) := ⟨⟩) : Prop := K (setX m x a d e)
theorem Zhm {a d K} : setXK none x a d e K = K e := rfl
theorem Zhn {i a d c fs K} : setXK (some i) ⟨c, fs⟩ a d e K = putN e i (.val (.exv a d c fs)) K := rfl
theorem hs1_t {m : Option Nat} {u : HdF} {r : RS} (ho : okM m e = true) (h : ∀ a d, setXK m x a d e fun e' => wp (u ⟨a, d, x.c⟩) e' (delK m fun r' => r' = r)) (q : Q r) : hs1 (some true) m u l x e Q := by
  show Q (if okM m e = true then _ else _)
  rw [if_pos ho, uAll_at (r := r) h]
  exact q
section
variable {i : Nat}
theorem Zho : delK none Q (.nx e) = Q (.nx e) := rfl
theorem Zhp {r} : delK none Q (.rt r e) = Q (.rt r e) := rfl
def delN (e : Env') (i : Nat) (k : Env' → Prop) (N : Prop) : Prop := if canSet e i then k (e.set i .un) else N
theorem Zhq : delK (some i) Q (.nx e) = setN e i .un (fun e => Q (.nx e)) (Q .no) := by
  show Q (if canSet e i = true then _ else _) = if canSet e i = true then _ else _
  by_cases h : canSet e i = true
  · rw [if_pos h, if_pos h]; rfl
  · rw [if_neg h, if_neg h]
theorem Zhr {r} : delK (some i) Q (.rt r e) = setN e i .un (fun e => Q (.rt r e)) (Q .no) := by
  show Q (if canSet e i = true then _ else _) = if canSet e i = true then _ else _
  by_cases h : canSet e i = true
  · rw [if_pos h, if_pos h]; rfl
  · rw [if_neg h, if_neg h]
end
end
end
section
variable {e : Env'} {Q : R → Prop} {xp : XP} {i : Nat}
def exvK (N : Prop) (k : PySem.Addr → Option PySem.Addr → Nat → List D → Prop) : SV → Prop
  | .val (.exv a d c fs) => k a d c fs
  | _ => N
theorem Zhs {N k a d c fs} : exvK N k (.val (.exv a d c fs)) = k a d c fs := rfl
theorem Zht {al} : wp (cXf xp i al) e Q = getN e i (exvK (Q .no) fun a d c fs => iteK (decide (a = xp.a ∧ d = xp.d ∧ c = xp.c)) (oK (al.lookup c) (Q .no) fun k => oK fs[k]? (Q .no) fun y => Q (.ok (.d y) e)) (Q .no)) (Q .no) := by
  unfold wp cXf getN exvK
  cases h : e[i]? with
  | none => rfl
  | some x => cases x with
    | val d => cases d with
      | exv a d c fs =>
        unfold iteK oK
        dsimp only
        by_cases h : a = xp.a ∧ d = xp.d ∧ c = xp.c
        · rw [if_pos h, decide_eq_true h, if_pos rfl]
          cases al.lookup c with
          | none => rfl
          | some k => cases h2 : fs[k]? <;> simp [h2]
        · rw [if_neg h, decide_eq_false h, if_neg Bool.false_ne_true]
      | _ => rfl
    | _ => rfl
theorem Zhu {M} : wp (cIsx xp i M) e Q = getN e i (exvK (Q .no) fun a d c fs => iteK (decide (a = xp.a ∧ d = xp.d ∧ c = xp.c)) (oK (M.lookup c) (Q .no) fun b => Q (.ok (.d (.bl b)) e)) (Q .no)) (Q .no) := by
  unfold wp cIsx getN exvK
  cases h : e[i]? with
  | none => rfl
  | some x => cases x with
    | val d => cases d with
      | exv a d c fs =>
        unfold iteK oK
        dsimp only
        by_cases h : a = xp.a ∧ d = xp.d ∧ c = xp.c
        · rw [if_pos h, decide_eq_true h, if_pos rfl]
          cases M.lookup c <;> rfl
        · rw [if_neg h, decide_eq_false h, if_neg Bool.false_ne_true]
      | _ => rfl
    | _ => rfl
theorem Zhv {a : PySem.Addr} {d : Option PySem.Addr} {c : Nat} : decide (a = a ∧ d = d ∧ c = c) = true := decide_eq_true ⟨rfl, rfl, rfl⟩
end
section
variable {e : Env'} {Q : R → Prop} {fi : Env' → RI} {vs : List Nat} {h : D → Env' → Option Env'} {c : Env' → RT} {f : Env' → R}
def lcK (vs : List Nat) (h : D → Env' → Option Env') (c : Env' → RT) (f : Env' → R) (ds : List D) (e : Env') (Q : R → Prop) (_ : Pin (vs, h, c, f, ds, e, Q) := ⟨⟩) : Prop :=
  if canWipe e vs = true then (match lcL vs h c f ds [] (wipeE e vs) with | some (acc, e') => Q (.ok (.o (.l acc)) (backE e e' vs)) | none => Q .no) else Q .no
theorem Zhw : wp (cLc fi vs h c f) e Q = wp fi e (iK Q fun ds e1 => lcK vs h c f ds e1 Q) := by
  unfold wp cLc lcK iK
  cases fi e with
  | ok ds e1 =>
    dsimp only
    by_cases hc : canWipe e1 vs = true
    · rw [if_pos hc, if_pos hc]
      cases lcL vs h c f ds [] (wipeE e1 vs) <;> rfl
    · rw [if_neg hc, if_neg hc]
  | _ => rfl
def lcE2 (vs : List Nat) (w : Env') (Q : Option D → Prop) : R → Prop
  | .ok r e3 => ∃ y, fz r = some y ∧ canWipe e3 vs = true ∧ wipeE e3 vs = w ∧ Q (some y)
  | _ => False
def lcE1 (vs : List Nat) (w : Env') (f : Env' → R) (Q : Option D → Prop) : RT → Prop
  | .ok true e2 => wp f e2 (lcE2 vs w Q)
  | .ok false e2 => canWipe e2 vs = true ∧ wipeE e2 vs = w ∧ Q none
  | _ => False
theorem Zhx {w d Q} : lcE2 vs w Q (.ok (.d d) e) = (canWipe e vs = true ∧ wipeE e vs = w ∧ Q (some d)) := by
  unfold lcE2 fz
  simp
theorem Zhy {w xs Q} : lcE2 vs w Q (.ok (.o (.l xs)) e) = (canWipe e vs = true ∧ wipeE e vs = w ∧ Q (some (.lst xs))) := by
  unfold lcE2 fz
  simp
def lcE1b (b : Bool) (vs : List Nat) (w : Env') (f : Env' → R) (Q : Option D → Prop) (e : Env') (_ : Pin (vs, w, f, Q, e) := ⟨⟩) : Prop := lcE1 vs w f Q (.ok b e)
theorem Zhz {w b Q} : lcE1 vs w f Q (.ok b e) = lcE1b b vs w f Q e := rfl
theorem Zia {w Q} : lcE1b true vs w f Q e = wp f e (lcE2 vs w Q) := rfl
theorem Zib {w Q} : lcE1b false vs w f Q e = (canWipe e vs = true ∧ wipeE e vs = w ∧ Q none) := rfl
def lcItem (vs : List Nat) (h : D → Env' → Option Env') (c : Env' → RT) (f : Env' → R) (d : D) (w : Env') (Q : Option D → Prop) : Prop := gK h d w (fun e1 => wp c e1 (lcE1 vs w f Q)) False
theorem Zic {d w Q} : lcItem vs h c f d w Q = gK h d w (fun e1 => wp c e1 (lcE1 vs w f Q)) False := rfl
theorem lcL_pure {w : Env'} {α : Type} {g : α → D} {F : α → Option D} : ∀ {l : List α} {acc : List D}, acc.length + l.length ≤ 16777216 → (∀ x ∈ l, lcItem vs h c f (g x) w (fun y => y = F x)) → lcL vs h c f (l.map g) acc w = some (acc ++ l.filterMap F, w)
  | [], acc, _, _ => by simp [lcL]
  | x :: l, acc, hl, hi => by
    have h0 := hi x (List.mem_cons_self)
    rw [List.length_cons] at hl
    rw [List.map_cons]
    unfold lcL
    unfold lcItem gK oE at h0
    cases hh : h (g x) w with
    | none => rw [hh] at h0; exact h0.elim
    | some e1 =>
      rw [hh] at h0
      dsimp only at h0 ⊢
      unfold wp at h0
      cases hc : c e1 with
      | ex x e => rw [hc] at h0; exact h0.elim
      | no => rw [hc] at h0; exact h0.elim
      | ok b e2 =>
        rw [hc] at h0
        cases b with
        | false =>
          obtain ⟨k1, k2, k3⟩ := h0
          dsimp only
          rw [if_pos k1, k2, lcL_pure (by omega) (fun y hy => hi y (List.mem_cons_of_mem _ hy))]
          rw [List.filterMap_cons, ← k3]
        | true =>
          have h1 : lcE2 vs w (fun y => y = F x) (f e2) := h0
          dsimp only
          cases hf : f e2 with
          | ex x e => rw [hf] at h1; exact h1.elim
          | no => rw [hf] at h1; exact h1.elim
          | ok r e3 =>
            rw [hf] at h1
            obtain ⟨y, k0, k1, k2, k3⟩ := h1
            dsimp only
            rw [k0]
            dsimp only
            rw [if_pos ⟨by omega, k1⟩, k2, lcL_pure (by simp; omega) (fun y hy => hi y (List.mem_cons_of_mem _ hy))]
            rw [List.filterMap_cons, ← k3]
            simp
theorem backE_wipe {e : Env'} (h : canWipe e vs = true) : backE e (wipeE e vs) vs = e := by
  apply List.ext_getElem?
  intro j
  by_cases hj : j ∈ vs
  · have hb := (canWipe_at h hj).1
    rw [backE_in (by rw [wipeE_length]; exact hb) hj, List.getD_eq_getElem?_getD, List.getElem?_eq_getElem hb]
    rfl
  · rw [backE_out hj]
    clear h
    induction vs with
    | nil => rfl
    | cons v vs ih =>
      rw [List.mem_cons, not_or] at hj
      unfold wipeE
      rw [List.getElem?_set_ne (Ne.symm hj.1)]
      exact ih hj.2
theorem lc_fm {α : Type} {l : List α} {g : α → D} (F : α → Option D) (hw : canWipe e vs = true) (hl : l.length ≤ 16777216) (hi : ∀ x ∈ l, lcItem vs h c f (g x) (wipeE e vs) (fun y => y = F x)) (hq : Q (.ok (.o (.l (l.filterMap F))) e)) : lcK vs h c f (l.map g) e Q := by
  unfold lcK
  rw [if_pos hw, lcL_pure (acc := []) (by simpa using hl) hi]
  dsimp only
  rw [backE_wipe hw]
  exact hq
theorem lc_map {α : Type} {l : List α} {g : α → D} (F : α → D) (hw : canWipe e vs = true) (hl : l.length ≤ 16777216) (hi : ∀ x ∈ l, lcItem vs h c f (g x) (wipeE e vs) (fun y => y = some (F x))) (hq : Q (.ok (.o (.l (l.map F))) e)) : lcK vs h c f (l.map g) e Q := by
  refine lc_fm (fun x => some (F x)) hw hl hi ?_
  rw [show l.filterMap (fun x => some (F x)) = l.map F from by rw [List.filterMap_eq_map']]
  exact hq
theorem lc_filter {α : Type} {l : List α} {g : α → D} (p : α → Bool) (F : α → D) (hw : canWipe e vs = true) (hl : l.length ≤ 16777216) (hi : ∀ x ∈ l, lcItem vs h c f (g x) (wipeE e vs) (fun y => y = if p x then some (F x) else none)) (hq : Q (.ok (.o (.l ((l.filter p).map F))) e)) : lcK vs h c f (l.map g) e Q := by
  refine lc_fm (fun x => if p x then some (F x) else none) hw hl hi ?_
  have : ∀ l : List α, l.filterMap (fun x => if p x = true then some (F x) else none) = (l.filter p).map F := fun l => by
    induction l with
    | nil => rfl
    | cons x l ih =>
      rw [List.filterMap_cons, List.filter_cons]
      by_cases h : p x = true
      · simp [h, ih]
      · simp [h, ih]
  rw [this]
  exact hq
end
section
variable {e : Env'} {Q : R → Prop} {f : Env' → R}
def ngK (M : List (Nat × Fn)) (e : Env') (Q : R → Prop) : D → Prop
  | .int i => Q (.ok (.d (.int (-i))) e)
  | .obj c xs => oK (M.lookup c) (Q .no) fun φ => fK (φ [.val (.obj c xs)]) Q [.d (.obj c xs)] e
  | _ => Q .no
theorem Zcm {M i} : ngK M e Q (.int i) = Q (.ok (.d (.int (-i))) e) := rfl
theorem Zcn {M c xs} : ngK M e Q (.obj c xs) = oK (M.lookup c) (Q .no) fun φ => fK (φ [.val (.obj c xs)]) Q [.d (.obj c xs)] e := rfl
theorem Zcl {M} : wp (cNegM M f) e Q = wp f e (bK Q fun d e1 => ngK M e1 Q d) := by
  unfold wp cNegM
  refine (R_bind_wp (Q := Q)).trans ?_
  congr 1
  funext d e1
  cases d with
  | obj c xs =>
    unfold ngK oK
    dsimp only
    cases M.lookup c with
    | none => rfl
    | some φ =>
      refine (callR_wp (Q := Q)).trans ?_
      exact svsK_s (by rw [nod_d, nod_0]; trivial)
  | _ => rfl
end
theorem Zlk {b} : truthD (.bl b) = some b := rfl
theorem Zll : truthD .non = some false := rfl
theorem Zlm {i} : truthD (.int i) = some (i != 0) := rfl
theorem Zln {xs} : truthD (.tup xs) = some (!xs.isEmpty) := rfl
theorem Zlo {xs} : truthD (.lst xs) = some (!xs.isEmpty) := rfl
theorem Zls {α : Type} {a : α} {xs} : atI (a :: xs) 0 = some a := by unfold atI ixN; simp
theorem Zlt {α : Type} {a b : α} {xs} : atI (a :: b :: xs) 1 = some b := by
  have : (1 : Int) < ((xs.length + 1 + 1 : Nat) : Int) := by omega
  unfold atI ixN
  simp only [List.length_cons]
  rw [if_pos (by decide), if_pos this]
  rfl
theorem Zlu {α : Type} {a b c : α} {xs} : atI (a :: b :: c :: xs) 2 = some c := by
  have : (2 : Int) < ((xs.length + 1 + 1 + 1 : Nat) : Int) := by omega
  unfold atI ixN
  simp only [List.length_cons]
  rw [if_pos (by decide), if_pos this]
  rfl
theorem Zlv {α : Type} {xs : List α} {k : Nat} : atI xs (k : Int) = xs[k]? := by
  unfold atI ixN
  rw [if_pos (by omega)]
  by_cases h : k < xs.length
  · rw [if_pos (by omega)]; rfl
  · rw [if_neg (by omega)]
    simp only [Option.bind_none]
    rw [List.getElem?_eq_none (by omega)]
theorem Zlp {xs i} : ixD (.tup xs) (.int i) = atI xs i := rfl
theorem Zlq {xs i} : ixD (.lst xs) (.int i) = atI xs i := rfl
theorem Zlr {xs i} : ixD (.ro xs) (.int i) = atI xs i := rfl
theorem ixD_s {l i} (h : l.length ≤ 16777216) : ixD (.str l) (.int i) = (atI l i).map fun c => .str [c] := if_pos h
theorem Zlw {xs} : bLen [.lst xs] = some (.d (.int xs.length)) := rfl
theorem Zlx {xs} : bLen [.tup xs] = some (.d (.int xs.length)) := rfl
theorem Zly {xs} : bLen [.ro xs] = some (.d (.int xs.length)) := rfl
theorem bLen_s {l} (h : l.length ≤ 16777216) : bLen [.str l] = some (.d (.int l.length)) := if_pos h
theorem Zlz {i} : bInt [.int i] = some (.d (.int i)) := rfl
theorem Zma {b} : bInt [.bl b] = some (.d (.int (if b then 1 else 0))) := rfl
theorem Zmb {i} : bAbs [.int i] = some (.d (.int i.natAbs)) := by
  show some (RV.d (.int (if i < 0 then -i else i))) = _
  congr 3
  split <;> omega
theorem Zmc {i j} : bGcd [.int i, .int j] = some (.d (.int (Int.gcd i j))) := rfl
theorem Zmd {xs} : bTup [.tup xs] = some (.d (.tup xs)) := rfl
theorem Zme {xs} : bTup [.lst xs] = some (.d (.tup xs)) := rfl
theorem Zmf {xs} : bTup [.ro xs] = some (.d (.tup xs)) := rfl
theorem Zmg {xs} : bLst [.tup xs] = some (.o (.l xs)) := rfl
theorem Zmh {xs} : bLst [.lst xs] = some (.o (.l xs)) := rfl
theorem Zmi {xs} : bLst [.ro xs] = some (.o (.l xs)) := rfl
theorem Zmm {xs} : itemsD (.tup xs) = some xs := rfl
theorem Zmn {xs} : itemsD (.lst xs) = some xs := rfl
theorem Zmo {xs} : itemsD (.ro xs) = some xs := rfl
theorem Zmp {l} : itemsD (.str l) = some (l.map fun c => .str [c]) := rfl
theorem Znh : kd .non = 0 := rfl
theorem Zni {b} : kd (.bl b) = 1 := rfl
theorem Znj {b} : kd (.int b) = 2 := rfl
theorem Znk {b} : kd (.str b) = 3 := rfl
theorem Znl {b} : kd (.tup b) = 4 := rfl
theorem Znm {b} : kd (.lst b) = 5 := rfl
theorem Znn {b} : kd (.ro b) = 5 := rfl
theorem Zno {c b} : kd (.obj c b) = 10 + c := rfl
section
variable {q : D → D → Option RV} {y : D}
theorem Zmy {a} : orP pEqX q (.int a) y = q (.int a) y := rfl
theorem Zmz {a} : orP pEqX q (.bl a) y = q (.bl a) y := rfl
theorem Zna {a} : orP pEqX q (.str a) y = q (.str a) y := rfl
theorem Znb : orP pEqX q .non y = q .non y := rfl
theorem Znc {a b} : orP pEqX q (.tup a) (.str b) = some (.d (.bl false)) := rfl
theorem Znd {a b} : orP pEqX q (.lst a) (.str b) = some (.d (.bl false)) := rfl
theorem Zne {a b} : orP pEqX q (.ro a) (.str b) = some (.d (.bl false)) := rfl
theorem Znf {a b} : orP pEqX q (.tup a) (.tup b) = q (.tup a) (.tup b) := rfl
theorem Zng {a b} : orP pEqX q (.lst a) (.lst b) = q (.lst a) (.lst b) := rfl
end
theorem Znr : pIsN .non .non = some (.d (.bl true)) := rfl
theorem Zns {a} : pIsN (.int a) .non = some (.d (.bl false)) := rfl
theorem Znu {a} : pIsN (.bl a) .non = some (.d (.bl false)) := rfl
theorem Znt {a} : pIsN (.str a) .non = some (.d (.bl false)) := rfl
theorem Znv {a} : pIsN (.tup a) .non = some (.d (.bl false)) := rfl
theorem Znw {a} : pIsN (.lst a) .non = some (.d (.bl false)) := rfl
theorem Znx {c a} : pIsN (.obj c a) .non = some (.d (.bl false)) := rfl
theorem Zny : pNotN .non .non = some (.d (.bl false)) := rfl
theorem Znz {a} : pNotN (.int a) .non = some (.d (.bl true)) := rfl
theorem Zob {a} : pNotN (.bl a) .non = some (.d (.bl true)) := rfl
theorem Zoa {a} : pNotN (.str a) .non = some (.d (.bl true)) := rfl
theorem Zoc {a} : pNotN (.tup a) .non = some (.d (.bl true)) := rfl
theorem Zod {a} : pNotN (.lst a) .non = some (.d (.bl true)) := rfl
theorem Zoe {c a} : pNotN (.obj c a) .non = some (.d (.bl true)) := rfl
theorem Znp {β : Type} {k : Nat} {v : β} {l} : List.lookup k ((k, v) :: l) = some v := List.lookup_cons_self
theorem Znq {β : Type} {k j : Nat} {v : β} {l} (h : (k == j) = false) : List.lookup k ((j, v) :: l) = List.lookup k l := by rw [List.lookup_cons, h]
theorem Zof (a b : List Nat) : pEq false (.str a) (.str b) = some (.d (.bl (a == b))) := rfl
theorem Zog (a b : List Nat) : pEq true (.str a) (.str b) = some (.d (.bl (!(a == b)))) := rfl
theorem Zoh (a b : Bool) : pEq false (.bl a) (.bl b) = some (.d (.bl (a == b))) := rfl
theorem Zoi (a b : Bool) : pEq true (.bl a) (.bl b) = some (.d (.bl (!(a == b)))) := rfl
theorem Zoj (b : List Nat) : pEq false .non (.str b) = some (.d (.bl false)) := rfl
theorem Zok (a) (b : List Nat) : pEq false (.int a) (.str b) = some (.d (.bl false)) := rfl
theorem Zol (a) (b : List Nat) : pEq false (.bl a) (.str b) = some (.d (.bl false)) := rfl
theorem Zom (a) (b : List Nat) : pEq false (.str b) (.int a) = some (.d (.bl false)) := rfl
theorem addS {a b : List Nat} (h : a.length + b.length ≤ 16777216) : pAdd (.str a) (.str b) = some (.d (.str (a ++ b))) := by
  have : lenOk a b = true := decide_eq_true h
  show orP pAddI (orP pAddS _) (.str a) (.str b) = _
  unfold orP pAddI pAddS pI pS
  dsimp only
  rw [if_pos this]
theorem addL {a b : List D} (h : a.length + b.length ≤ 16777216) : pAdd (.lst a) (.lst b) = some (.o (.l (a ++ b))) := by
  show orP pAddI (orP pAddS (orP pAddT pAddL)) (.lst a) (.lst b) = _
  unfold orP pAddI pAddS pI pS pAddT pAddL
  dsimp only
  rw [if_pos (show decide (a.length + b.length ≤ SZ) = true from decide_eq_true h)]
theorem Zov {xs : List D} {lo hi : Option Int} : slD (.tup xs) lo hi = some (.d (.tup (cut xs lo hi))) := rfl
theorem mulS {a : List Nat} {n : Int} (h0 : 0 ≤ n) (h1 : n ≤ 16777216) (h : a.length * n.toNat ≤ 16777216) : pMul (.str a) (.int n) = some (.d (.str (List.replicate n.toNat a).flatten)) := by
  show orP pMulI (orP pMulS pMulL) (.str a) (.int n) = _
  unfold orP pMulI pMulS pI
  dsimp only
  rw [if_pos (by rw [Bool.and_eq_true, Bool.and_eq_true]; exact ⟨⟨decide_eq_true h0, decide_eq_true h⟩, decide_eq_true h1⟩)]
theorem eq_P {neg : Bool} {x y : D} (h0 : scD x y = false) (h1 : plain 60 x = true) (h2 : plain 60 y = true) (h3 : noMix x y = true) : pEq neg x y = some (.d (.bl (if neg then !eqD x y else eqD x y))) := by
  show orP (pEqF neg) (pEqP neg) x y = _
  unfold orP pEqF pEqP
  rw [if_neg (by rw [h0]; decide), h1, h2, h3]
  rfl
section
variable {e : Env'} {Q : R → Prop} {f g : Env' → R} {lo hi : Env' → RO}
def uK (Q : R → Prop) (k : Option Int → Env' → Prop) : RO → Prop
  | .ok b e => k b e
  | .ex x e => Q (.ex x e)
  | .no => Q .no
theorem Zjr {k b} : uK Q k (.ok b e) = k b e := rfl
theorem Zjs {QO : RO → Prop} : wp o0 e QO = QO (.ok none e) := rfl
def oiK (QO : RO → Prop) : R → Prop := fun r => QO (match r with | .ok (.d (.int i)) e => .ok (some i) e | .ex x e => .ex x e | _ => .no)
theorem Zju {QO : RO → Prop} {i} : oiK QO (.ok (.d (.int i)) e) = QO (.ok (some i) e) := rfl
theorem Zjt {QO : RO → Prop} : wp (oI f) e QO = wp f e (oiK QO) := by
  unfold wp oI oiK
  rfl
theorem RO_bind_wp {r : RO} {k : Option Int → Env' → R} : Q (r.bind k) = uK Q (fun b e => Q (k b e)) r := by cases r <;> rfl
theorem Zjv : wp (cSl f lo hi) e Q = wp f e (bK Q fun d e0 => wp lo e0 (uK Q fun l e1 => wp hi e1 (uK Q fun u e2 => oK (slD d l u) (Q .no) fun r => Q (.ok r e2)))) := by
  unfold wp cSl
  refine (R_bind_wp (Q := Q)).trans ?_
  congr 1
  funext d e0
  refine (RO_bind_wp (Q := Q)).trans ?_
  congr 1
  funext l e1
  refine (RO_bind_wp (Q := Q)).trans ?_
  congr 1
  funext u e2
  unfold oK
  cases slD d l u <;> rfl
theorem slD_s {l lo hi} (h : l.length ≤ 16777216) : slD (.str l) lo hi = some (.d (.str (cut l lo hi))) := if_pos h
theorem Zot {l lo hi} : slD (.lst l) lo hi = some (.o (.l (cut l lo hi))) := rfl
theorem Zou {l lo hi} : slD (.ro l) lo hi = some (.o (.l (cut l lo hi))) := rfl
theorem Zow {α : Type} {l : List α} {k : Nat} : cut l none (some (k : Int)) = l.take k := by
  unfold cut
  rw [HT.sIx_nat]
  show List.take (min k l.length - 0) (l.drop 0) = _
  rw [List.drop_zero, Nat.sub_zero]
  by_cases h : k ≤ l.length
  · rw [Nat.min_eq_left h]
  · rw [Nat.min_eq_right (by omega), List.take_length, List.take_of_length_le (by omega)]
theorem Zox {α : Type} {l : List α} {k : Nat} : cut l (some (k : Int)) none = l.drop k := by
  unfold cut
  rw [HT.sIx_nat]
  show List.take (l.length - min k l.length) (l.drop (min k l.length)) = _
  by_cases h : k ≤ l.length
  · rw [Nat.min_eq_left h, List.take_of_length_le (by simp)]
  · rw [Nat.min_eq_right (by omega), List.drop_eq_nil_of_le (by omega)]; simp; omega
theorem Zoy {α : Type} {l : List α} {j k : Nat} : cut l (some (j : Int)) (some (k : Int)) = (l.take k).drop j := by
  unfold cut
  rw [HT.sIx_nat, HT.sIx_nat, List.drop_take]
  by_cases h1 : j ≤ l.length
  · rw [Nat.min_eq_left h1]
    by_cases h2 : k ≤ l.length
    · rw [Nat.min_eq_left h2]
    · rw [Nat.min_eq_right (by omega), List.take_of_length_le (by simp), List.take_of_length_le (by simp; omega)]
  · rw [Nat.min_eq_right (by omega : l.length ≤ j), List.drop_eq_nil_of_le (Nat.le_refl _), List.drop_eq_nil_of_le (by omega : l.length ≤ j)]
    simp
end
section
variable {as : List SV} {e : Env'} {r : RV}
theorem Zoz {i : Nat} : outsA i [] e = [] := by cases e <;> rfl
theorem Zpa {i : Nat} {d : D} {x : SV} : outsA i (.val d :: as) (x :: e) = outsA (i + 1) as e := by cases x <;> rfl
theorem Zpb {i : Nat} {b c : Bool} {o o' : OB} : outsA i (.own b o :: as) (.own c o' :: e) = (i, o') :: outsA (i + 1) as e := rfl
theorem Zjw : endF as (.rt r e) = .ok r (outsA 0 as e) := rfl
theorem Zjx : endF as (.nx e) = .ok (.d .non) (outsA 0 as e) := rfl
theorem Zjy {x} : endF as (.ex x e) = .ex x (outsA 0 as e) := rfl
theorem fn_at {g : Env' → RS} {n m : Nat} {e : Env'} {r : RF} (hl : as.length = m) (he : startE as n = e) (h : wp g e (fun rs => endF as rs = r)) : fnF g n m as = r := by
  subst he
  exact (fnF_run hl).trans h
theorem fn_atP {g : Env' → RS} {n m : Nat} {e : Env'} {P : RF → Prop} (hl : as.length = m) (he : startE as n = e) (h : wp g e (fun rs => P (endF as rs))) : P (fnF g n m as) := by
  subst he
  rw [fnF_run hl]
  exact h
end
section
variable {e : Env'} {Q : RS → Prop} {t : Env' → RS} {h : D → Env' → Option Env'}
theorem for_r0 {n : Nat} (P : Nat → Env' → Prop) (h0 : P 0 e) (st : ∀ i e, i < n → P i e → gK h (.int (i : Int)) e (fun e1 => wp t e1 (lpK (fun e2 => P (i + 1) e2) Q)) (Q .no)) (fin : ∀ e, P n e → Q (.nx e)) : wp (forL h t (rngD 0 (n : Int))) e Q := by
  rw [rngD_0]
  exact for_n P h0 st fin
end
end L2.S

set_option Elab.async false
set_option linter.all false
set_option maxRecDepth 100000
set_option maxHeartbeats 4000000
namespace L2.S
open PySem PySem.Spec PyProof.Rows TL RZ
section
variable {X : Cx} {T : Tb} {W : WX} {a b c e o : Expr} {es : List Expr} {f g : Env' → R} {fa : Env' → RA} {pos p apos cpos : Pos}
def boolsD : List D → Option (List Bool)
  | [] => some []
  | .bl b :: r => (boolsD r).map (b :: ·)
  | _ :: _ => none
def intsD : List D → Option (List Int)
  | [] => some []
  | .int b :: r => (intsD r).map (b :: ·)
  | _ :: _ => none
def strsD : List D → Option (List (List Nat))
  | [] => some []
  | .str b :: r => (strsD r).map (b :: ·)
  | _ :: _ => none
theorem boolsD_reps {Z : Hp} : ∀ {vs : List V} {ds : List D} {bs : List Bool}, Reps T Z vs ds → boolsD ds = some bs → vs = bs.map V.bl
  | _, _, _, .nil, h => by cases h; rfl
  | _, .bl b :: r, bs, .cons h rs, e => by
    have e' : (boolsD r).map (b :: ·) = some bs := e
    cases q : boolsD r with
    | none => rw [q] at e'; cases e'
    | some w =>
      rw [q] at e'
      cases e'
      cases h
      rw [boolsD_reps rs q]
      rfl
  | _, .non :: _, _, .cons _ _, e => by cases e
  | _, .int _ :: _, _, .cons _ _, e => by cases e
  | _, .str _ :: _, _, .cons _ _, e => by cases e
  | _, .tup _ :: _, _, .cons _ _, e => by cases e
  | _, .lst _ :: _, _, .cons _ _, e => by cases e
  | _, .ro _ :: _, _, .cons _ _, e => by cases e
  | _, .obj _ _ :: _, _, .cons _ _, e => by cases e
  | _, .fn _ :: _, _, .cons _ _, e => by cases e
  | _, .ty _ :: _, _, .cons _ _, e => by cases e
  | _, .cls _ :: _, _, .cons _ _, e => by cases e
  | _, .exv _ _ _ _ :: _, _, .cons _ _, e => by cases e
def mkS (l : List Nat) : Str := ⟨l.toArray⟩
theorem strsD_reps {Z : Hp} : ∀ {vs : List V} {ds : List D} {bs : List (List Nat)}, Reps T Z vs ds → strsD ds = some bs → vs = (bs.map mkS).map V.str
  | _, _, _, .nil, h => by cases h; rfl
  | _, .str b :: r, bs, .cons h rs, e => by
    have e' : (strsD r).map (b :: ·) = some bs := e
    cases q : strsD r with
    | none => rw [q] at e'; cases e'
    | some w =>
      rw [q] at e'
      cases e'
      cases h
      rw [strsD_reps rs q]
      rfl
  | _, .non :: _, _, .cons _ _, e => by cases e
  | _, .bl _ :: _, _, .cons _ _, e => by cases e
  | _, .int _ :: _, _, .cons _ _, e => by cases e
  | _, .tup _ :: _, _, .cons _ _, e => by cases e
  | _, .lst _ :: _, _, .cons _ _, e => by cases e
  | _, .ro _ :: _, _, .cons _ _, e => by cases e
  | _, .obj _ _ :: _, _, .cons _ _, e => by cases e
  | _, .fn _ :: _, _, .cons _ _, e => by cases e
  | _, .ty _ :: _, _, .cons _ _, e => by cases e
  | _, .cls _ :: _, _, .cons _ _, e => by cases e
  | _, .exv _ _ _ _ :: _, _, .cons _ _, e => by cases e
def bAll : List D → Option RV
  | [.lst xs] => (boolsD xs).map fun bs => .d (.bl (bs.all id))
  | _ => none
def bAny : List D → Option RV
  | [.lst xs] => (boolsD xs).map fun bs => .d (.bl (bs.any id))
  | _ => none
def bSum : List D → Option RV
  | [.lst xs] => (intsD xs).map fun bs => .d (.int bs.sum)
  | _ => none
theorem b_all (hc : X.calm = true) : BI X T (.builtin "all") bAll := BI.of (cr_all hc) fun G B Z H σ env xs ds w Q E rs e c => by
  unfold bAll at e
  split at e
  · rename_i ys
    cases hb : boolsD ys with
    | none => rw [hb] at e; cases e
    | some bs =>
      rw [hb] at e
      cases e
      obtain ⟨x, rfl, r⟩ := rs.one
      cases r with
      | lst hq rr =>
        rw [boolsD_reps rr hb] at hq
        exact ⟨_, bs, rfl, SqL.of (E.sub _ _ hq), c _ H Z (Same.refl _) E (.bl _)⟩
  · cases e
def bMin2 : List D → Option RV
  | [.int i, .int j] => some (.d (.int (min i j)))
  | _ => none
def bMax2 : List D → Option RV
  | [.int i, .int j] => some (.d (.int (max i j)))
  | _ => none
theorem b_min2 (hc : X.calm = true) : BI X T (.builtin "min") bMin2 := BI.of (call_min2 hc) fun G B Z H σ env xs ds w Q E rs e c => by
  unfold bMin2 at e
  split at e
  · cases e
    obtain ⟨x, y, rfl, r, r2⟩ := rs.two
    cases r; cases r2
    rename_i i j
    refine ⟨i, j, rfl, c _ H Z (Same.refl _) E ?_⟩
    have e : (if j < i then j else i) = min i j := by rw [Int.min_def]; split <;> split <;> omega
    rw [e]
    exact .int _
  · cases e
theorem b_max2 (hc : X.calm = true) : BI X T (.builtin "max") bMax2 := BI.of (call_max2 hc) fun G B Z H σ env xs ds w Q E rs e c => by
  unfold bMax2 at e
  split at e
  · cases e
    obtain ⟨x, y, rfl, r, r2⟩ := rs.two
    cases r; cases r2
    rename_i i j
    refine ⟨i, j, rfl, c _ H Z (Same.refl _) E ?_⟩
    have e : (if j > i then j else i) = max i j := by rw [Int.max_def]; split <;> split <;> omega
    rw [e]
    exact .int _
  · cases e
def bDm : List D → Option RV
  | [.int i, .int j] => if decide (0 < j) && decide (j.natAbs.log2 < 9000) then some (.d (.tup [.int (i / j), .int (i % j)])) else none
  | _ => none
def cMs (q : List Nat → List D → Option RV) (f : Env' → R) (fa : Env' → RA) : Env' → R := fun env => (f env).bind fun d e => match d with
  | .str l => (fa e).bind fun as e1 => (match avD as with | some ds => (match q l ds with | some r => .ok r e1 | none => .no) | none => .no)
  | _ => .no
def MsOk (T : Tb) (r : V → List V → Hp → VK → Prop) (q : List Nat → List D → Option RV) : Prop :=
  ∀ (G : Gd) (B : List (Nat × Addr)) (Z H : Hp) (σ : St) (env : Env') (l : List Nat) (xs : List V) (ds : List D) (w : RV) (Q : VK), EOk T G B Z H σ env → Reps T Z xs ds → q l ds = some w →
      (∀ v H' Z', Same Z Z' → EOk T G B Z' H' σ env → RRep T G Z' H' σ env v w → Q v H') → r (.str (mkS l)) xs H Q
theorem se_ms {m : Str} {id : String} {r : V → List V → Hp → VK → Prop} {q : List Nat → List D → Option RV} (slot : Slot "str" m id) (hty : typeOf (.builtin id) = pure (.type "method_descriptor")) (hm : MtR X id r) (hq : MsOk T r q) (ho : SE X T W o f) (ha : SA X T W (e :: es) fa)
    (hbase : attributeBase o m X.env (eval o X.env) = eval o X.env := by rfl)
    (hfew : ((backTo cpos (starEach (e :: es) X.env)).all (fun x => !x.1) && (backToKw cpos (keywordEach [] X.env)).all (fun x => x.1.isSome)
      && decide ((e :: es).length + ([] : List Keyword).length + (if ([] : List Keyword).isEmpty then 0 else 1) < 30)) = true := by rfl)
    (hline : (apos.endLine == cpos.line) = true := by rfl) (hs : starEach (e :: es) X.env = (false, eval e X.env) :: starEach es X.env := by rfl) (hplain : (backTo cpos (starEach es X.env)).any (·.1) = false := by rfl) :
    SE X T W (.Call (.Attribute o m apos) (e :: es) [] cpos) (cMs q f fa) := by
  refine PE.weak (pe_bm PySem.F.plainAttrs_str slot hty hm ho ha hbase hfew hline hs hplain) fun σ H Q ⟨G, B, Z, env, E, h⟩ => ?_
  refine useR E h fun x H1 Z1 e1 dx s1 E1 r1 h1 => ?_
  cases r1 with
  | str l =>
    dsimp only at h1
    refine ⟨rfl, useAR E1 h1 fun vs H2 Z2 e2 as s2 E2 r2 h2 => ?_⟩
    cases hd : avD as with
    | none => rw [hd] at h2; exact h2.elim
    | some ds =>
      rw [hd] at h2
      dsimp only at h2
      cases hw : q l ds with
      | none => rw [hw] at h2; exact h2.elim
      | some w =>
        rw [hw] at h2
        exact hq G B Z2 H2 σ e2 l vs ds w Q E2 (r2.reps hd) hw h2
  | _ => exact h1.elim
def qJoin : List Nat → List D → Option RV := fun l ds => match ds with
  | [.lst xs] => (match strsD xs with | some ys => if (ys.map (·.length)).sum + ys.length * l.length ≤ 16777216 then some (.d (.str (joinL l ys))) else none | none => none)
  | _ => none
theorem mkS_of {x : Str} {l : List Nat} (h : tl x = l) : x = mkS l := by
  subst h
  obtain ⟨cps⟩ := x
  rfl
theorem ms_join : MsOk T (fun x xs H Q => ∃ a p, ∃ ys : List Str, x = .str a ∧ xs = [.ref p] ∧ (SqL X.K H p (ys.map V.str) ∨ SqT X.K H p (ys.map V.str)) ∧ (ys.map (·.length)).sum + ys.length * a.length ≤ 16777216 ∧ Q (.str (Txt.join a ys)) H) qJoin := by
  intro G B Z H σ env l xs ds w Q E rs e c
  unfold qJoin at e
  split at e
  · rename_i zs
    cases hb : strsD zs with
    | none => rw [hb] at e; cases e
    | some ys =>
      rw [hb] at e
      dsimp only at e
      split at e
      · rename_i hl
        cases e
        obtain ⟨x, rfl, r⟩ := rs.one
        cases r with
        | lst hq rr =>
          rw [strsD_reps rr hb] at hq
          have ml : ((ys.map mkS).map (·.length)) = ys.map (·.length) := by
            rw [List.map_map]
            exact List.map_congr_left fun y _ => by show (y.toArray).size = _; simp
          refine ⟨mkS l, _, ys.map mkS, rfl, rfl, .inl (SqL.of (E.sub _ _ hq)), ?_, ?_⟩
          · rw [ml, List.length_map]
            show _ + _ * (l.toArray).size ≤ _
            simpa using hl
          · have : Txt.join (mkS l) (ys.map mkS) = mkS (joinL l ys) := mkS_of (by
              rw [join_eq, tl_join, List.map_map]
              congr 1
              rw [show (tl ∘ mkS) = id from rfl, List.map_id])
            rw [this]
            exact c _ H Z (Same.refl _) E (.str _)
      · cases e
  · cases e
def zipD (xs ys : List D) : List D := (xs.zip ys).map fun q => .tup [q.1, q.2]
def enuD (xs : List D) : List D := xs.zipIdx.map fun q => .tup [.int (q.2 : Int), q.1]
theorem walk_pair {Z Z' H : Hp} {t : Addr} {v w : V} {x y : D} (s : Same Z Z') (s' : Same Z' H) (ht : H t = none) (r1 : Rep T Z v x) (r2 : Rep T Z w y) :
    ∃ Z'', Same Z' Z'' ∧ Rep T Z'' (.ref t) (.tup [x, y]) ∧ ((upd H t (.tup [v, w]) = H ∧ Z'' = Z') ∨ ∃ t' o, H t' = none ∧ upd H t (.tup [v, w]) = upd H t' o ∧ Z'' = upd Z' t' o) := by
  have sz : Same Z' (upd Z' t (.tup [v, w])) := same_upd (s'.free ht)
  exact ⟨upd Z' t (.tup [v, w]), sz, .tup (SqT.of upd_same) (.cons (r1.mono (s.trans sz)) (.cons (r2.mono (s.trans sz)) .nil)), .inr ⟨t, _, ht, rfl, rfl⟩⟩
def iZp (fa : Env' → RA) : Env' → RI := fun env => (fa env).bindI fun as e => match as with
  | [.d (.tup xs), .d (.tup ys)] => .ok (zipD xs ys) e
  | [.d (.lst xs), .d (.lst ys)] => .ok (zipD xs ys) e
  | _ => .no
def iEn (fa : Env' → RA) : Env' → RI := fun env => (fa env).bindI fun as e => match as with
  | [.d (.lst xs)] => .ok (enuD xs) e
  | _ => .no
def sAug (i : Nat) (q : Int → Int → Int) (f : Env' → R) : Env' → RS := fun env => match env[i]? with
  | some (.val (.int k)) => (f env).bindS fun d e => (match d, e[i]? with | .int j, some (.val (.int k')) => if k' = k then .nx (e.set i (.val (.int (q k j)))) else .no | _, _ => .no)
  | _ => .no
theorem ss_aug {i : Nat} {x : Str} {op : Operator} {q : Int → Int → Int} {pos' : Pos} (hN : X.N.Nodup) (ho : PIp X op (ipI q)) (he : SE X T W a f) (hi : X.N[i]? = some x := by rfl) (hx : Loc X.env.scope x := by first | exact Or.inl rfl | exact Or.inr rfl)
    (hf : X.fn x = true ∨ X.env.scope.names.lookup x = some .local := by first | exact .inl rfl | exact .inr rfl | assumption) : SS X T W (.AugAssign (.Name x pos') op a pos) (sAug i q f) := by
  refine PS.weak (ps_aug hN hi hx he ho hf) fun K σ H ⟨G, B, Z, env, E, h⟩ => ?_
  unfold sAug at h
  split at h
  · rename_i k hk
    obtain ⟨v, e1, r⟩ := E.val i _ hk
    cases r
    refine ⟨_, e1, useS E h fun y H1 Z1 e d s E1 r1 h1 => ?_⟩
    split at h1
    · rename_i j k' hk'
      split at h1
      · rename_i ek
        cases r1
        refine ⟨k, j, rfl, rfl, h1 _ _ Z1 (Same.refl _) (E1.store (r := .d (.int (q k j))) ?_ (.int _))⟩
        unfold canSet
        rw [hk']
      · exact h1.elim
    · exact h1.elim
  · exact h.elim
def relabelS (sc out : Scope) : Scope := { sc with names := sc.names.map fun q => if (q.2 == NameKind.free && out.kind == .function && out.names.lookup q.1 == some NameKind.cell) then (q.1, NameKind.cell) else q }
end
section
variable {e : Env'} {Q : R → Prop} {QI : RI → Prop} {QS : RS → Prop} {f g : Env' → R} {fa : Env' → RA}
def strK (N : Prop) (k : List Nat → Prop) : D → Prop
  | .str l => k l
  | _ => N
theorem Zii {N k l} : strK N k (.str l) = k l := rfl
theorem Zih {q} : wp (cMs q f fa) e Q = wp f e (bK Q fun d e1 => strK (Q .no) (fun l => wp fa e1 (aK Q fun as e2 => oK (avD as) (Q .no) fun ds => oK (q l ds) (Q .no) fun r => Q (.ok r e2))) d) := by
  unfold wp cMs
  refine (R_bind_wp (Q := Q)).trans ?_
  congr 1
  funext d e1
  cases d with
  | str l =>
    refine (RA_bind_wp (Q := Q)).trans ?_
    congr 1
    funext as e2
    unfold oK
    cases avD as with
    | none => rfl
    | some ds => cases h : q l ds <;> simp [h]
  | _ => rfl
def zpK (N : Prop) (k : List D → Prop) : List AV → Prop
  | [.d (.tup xs), .d (.tup ys)] => k (zipD xs ys)
  | [.d (.lst xs), .d (.lst ys)] => k (zipD xs ys)
  | _ => N
theorem Zik {N k xs ys} : zpK N k [.d (.tup xs), .d (.tup ys)] = k (zipD xs ys) := rfl
theorem Zil {N k xs ys} : zpK N k [.d (.lst xs), .d (.lst ys)] = k (zipD xs ys) := rfl
theorem Zij : wp (iZp fa) e QI = wp fa e (aK QI fun as e1 => zpK (QI .no) (fun ds => QI (.ok ds e1)) as) := by
  unfold wp iZp
  refine (RA_bindI_wp (Q := QI)).trans ?_
  congr 1
  funext as e1
  unfold zpK
  split <;> rfl
def enK (N : Prop) (k : List D → Prop) : List AV → Prop
  | [.d (.lst xs)] => k (enuD xs)
  | _ => N
theorem Zit {N k xs} : enK N k [.d (.lst xs)] = k (enuD xs) := rfl
theorem Zis : wp (iEn fa) e QI = wp fa e (aK QI fun as e1 => enK (QI .no) (fun ds => QI (.ok ds e1)) as) := by
  unfold wp iEn
  refine (RA_bindI_wp (Q := QI)).trans ?_
  congr 1
  funext as e1
  unfold enK
  split <;> rfl
def agK (N : Prop) (k : Int → Prop) : SV → Prop
  | .val (.int i) => k i
  | _ => N
theorem Zjc {N k i} : agK N k (.val (.int i)) = k i := rfl
theorem Zjb {i q} : wp (sAug i q f) e QS = getN e i (agK (QS .no) fun k => wp f e (bK QS fun d e1 => intK (QS .no) (fun j => getN e1 i (agK (QS .no) fun k' => iteK (decide (k' = k)) (putN e1 i (.val (.int (q k j))) fun e2 => QS (.nx e2)) (QS .no)) (QS .no)) d)) (QS .no) := by
  unfold wp sAug getN agK putN
  cases h : e[i]? with
  | none => rfl
  | some x =>
    cases x with
    | val d =>
      cases d with
      | int k =>
        refine (R_bindS_wp (Q := QS)).trans ?_
        congr 1
        funext d e1
        unfold intK iteK
        cases d with
        | int j =>
          cases h1 : e1[i]? with
          | none => rfl
          | some x1 =>
            cases x1 with
            | val d1 =>
              cases d1 with
              | int k' =>
                dsimp only
                by_cases hk : k' = k
                · subst hk; simp
                · simp [hk]
              | _ => rfl
            | _ => rfl
        | _ => rfl
      | _ => rfl
    | _ => rfl
end
theorem boolsD_map {α : Type} {l : List α} {f : α → Bool} : boolsD (l.map fun x => .bl (f x)) = some (l.map f) := by
  induction l with
  | nil => rfl
  | cons x l ih => show (boolsD (l.map fun x => .bl (f x))).map (f x :: ·) = _; rw [ih]; rfl
theorem intsD_map {α : Type} {l : List α} {f : α → Int} : intsD (l.map fun x => .int (f x)) = some (l.map f) := by
  induction l with
  | nil => rfl
  | cons x l ih => show (intsD (l.map fun x => .int (f x))).map (f x :: ·) = _; rw [ih]; rfl
theorem strsD_map {α : Type} {l : List α} {f : α → List Nat} : strsD (l.map fun x => .str (f x)) = some (l.map f) := by
  induction l with
  | nil => rfl
  | cons x l ih => show (strsD (l.map fun x => .str (f x))).map (f x :: ·) = _; rw [ih]; rfl
theorem strsD_mapS {l : List (List Nat)} : strsD (l.map .str) = some l := by
  have := strsD_map (l := l) (f := id)
  rwa [List.map_id] at this
theorem Zop {α : Type} {l : List α} {f : α → Bool} : bAll [.lst (l.map fun x => .bl (f x))] = some (.d (.bl (l.all f))) := by
  show (boolsD _).map _ = _
  rw [boolsD_map]
  show some (RV.d (.bl ((l.map f).all id))) = _
  rw [List.all_map]
  rfl
theorem Zoq {α : Type} {l : List α} {f : α → Bool} : bAny [.lst (l.map fun x => .bl (f x))] = some (.d (.bl (l.any f))) := by
  show (boolsD _).map _ = _
  rw [boolsD_map]
  show some (RV.d (.bl ((l.map f).any id))) = _
  rw [List.any_map]
  rfl
theorem Zon {i j} : bMin2 [.int i, .int j] = some (.d (.int (min i j))) := rfl
theorem Zoo {i j} : bMax2 [.int i, .int j] = some (.d (.int (max i j))) := rfl
theorem qJoin_s {l : List Nat} {ys : List (List Nat)} (h : (ys.map (·.length)).sum + ys.length * l.length ≤ 16777216) : qJoin l [.lst (ys.map .str)] = some (.d (.str (TL.joinL l ys))) := by
  unfold qJoin
  dsimp only
  rw [strsD_mapS]
  exact if_pos h
theorem joinL_nil {ys : List (List Nat)} : TL.joinL [] ys = ys.flatten := by
  induction ys with
  | nil => rfl
  | cons y r ih =>
    cases r with
    | nil => simp [TL.joinL]
    | cons z r =>
      show y ++ ([] ++ TL.joinL [] (z :: r)) = _
      rw [ih]
      rfl
end L2.S

set_option Elab.async false
set_option linter.all false
set_option maxRecDepth 100000
set_option maxHeartbeats 4000000
namespace L2.S
open PySem PySem.Spec PyProof.Rows
section
variable {X : Cx} {T : Tb} {W : WX} {a b c e o : Expr} {es : List Expr} {f g : Env' → R} {fa : Env' → RA} {pos p apos cpos : Pos}
def flatD : D → Bool
  | .non => true
  | .bl _ => true
  | .int _ => true
  | .str _ => true
  | _ => false
def pInF (neg : Bool) : D → D → Option RV := fun x y => match y with
  | .tup ys => if flatD x && ys.all (fun z => flatD z && noMix z x) then some (.d (.bl (if neg then !ys.any (fun z => eqD z x) else ys.any (fun z => eqD z x)))) else none
  | .lst ys => if flatD x && ys.all (fun z => flatD z && noMix z x) then some (.d (.bl (if neg then !ys.any (fun z => eqD z x) else ys.any (fun z => eqD z x)))) else none
  | _ => none
def pInD (neg : Bool) : D → D → Option RV := fun x y => match y with
  | .lst ys => if plain 50 x && (plains 50 ys && ys.all fun z => noMix z x) then some (.d (.bl (if neg then !ys.any (fun z => eqD z x) else ys.any (fun z => eqD z x)))) else none
  | _ => none
def pIn := orP pInS (orP (pInF false) (pInD false))
def pNin := orP pNinS (orP (pInF true) (pInD true))
def pIsB (neg : Bool) : D → D → Option RV := fun x y => match x, y with | .bl a, .bl b => some (.d (.bl (if neg then !decide (a = b) else decide (a = b)))) | _, _ => none
def sPar3 (i j l : Nat) (fa : Env' → RA) : Env' → RS := fun env => match fa env with
  | .ok as e => (match avD as with
    | some [x, y, z] => if canSet e i && (canSet (e.set i (.val x)) j && canSet ((e.set i (.val x)).set j (.val y)) l) then .nx (((e.set i (.val x)).set j (.val y)).set l (.val z)) else .no
    | _ => .no)
  | .ex x e => .ex x e
  | .no => .no
end
section
variable {e : Env'} {Q : RS → Prop} {fa : Env' → RA}
def p2K (N : Prop) (k : D → D → Prop) : List D → Prop
  | [x, y] => k x y
  | _ => N
theorem Zjh {N k x y} : p2K N k [x, y] = k x y := rfl
def p3K (N : Prop) (k : D → D → D → Prop) : List D → Prop
  | [x, y, z] => k x y z
  | _ => N
theorem Zji {N k x y z} : p3K N k [x, y, z] = k x y z := rfl
theorem Zjd {i j} : wp (sPar2 i j fa) e Q = wp fa e (aK Q fun as e1 => oK (avD as) (Q .no) (p2K (Q .no) fun x y => setN e1 i (.val x) (fun e2 => setN e2 j (.val y) (fun e3 => Q (.nx e3)) (Q .no)) (Q .no))) := by
  unfold wp sPar2 aK oK setN
  cases fa e with
  | ok as e1 =>
    dsimp only
    cases avD as with
    | none => rfl
    | some ds => match ds with
      | [] => rfl
      | [x] => rfl
      | [x, y] =>
        show Q (if (canSet e1 i && canSet (e1.set i (.val x)) j) = true then _ else _) = if canSet e1 i = true then (if canSet (e1.set i (.val x)) j = true then _ else _) else _
        by_cases h1 : canSet e1 i = true
        · by_cases h2 : canSet (e1.set i (.val x)) j = true
          · simp [h1, h2]
          · simp [h1, h2]
        · simp [h1]
      | _ :: _ :: _ :: _ => rfl
  | _ => rfl
theorem Zjg {i j l} : wp (sPar3 i j l fa) e Q = wp fa e (aK Q fun as e1 => oK (avD as) (Q .no) (p3K (Q .no) fun x y z => setN e1 i (.val x) (fun e2 => setN e2 j (.val y) (fun e3 => setN e3 l (.val z) (fun e4 => Q (.nx e4)) (Q .no)) (Q .no)) (Q .no))) := by
  unfold wp sPar3 aK oK setN
  cases fa e with
  | ok as e1 =>
    dsimp only
    cases avD as with
    | none => rfl
    | some ds => match ds with
      | [] => rfl
      | [x] => rfl
      | [x, y] => rfl
      | [x, y, z] =>
        show Q (if (canSet e1 i && (canSet (e1.set i (.val x)) j && canSet ((e1.set i (.val x)).set j (.val y)) l)) = true then _ else _) = if canSet e1 i = true then (if canSet (e1.set i (.val x)) j = true then (if canSet ((e1.set i (.val x)).set j (.val y)) l = true then _ else _) else _) else _
        by_cases h1 : canSet e1 i = true
        · by_cases h2 : canSet (e1.set i (.val x)) j = true
          · by_cases h3 : canSet ((e1.set i (.val x)).set j (.val y)) l = true
            · simp [h1, h2, h3]
            · simp [h1, h2, h3]
          · simp [h1, h2]
        · simp [h1]
      | _ :: _ :: _ :: _ :: _ => rfl
  | _ => rfl
end
section
variable {e : Env'} {Q : R → Prop} {lo hi : Env' → RO} {f g h : Env' → R}
theorem Zjj {i} : wp (cSlO i lo hi) e Q = getN e i (olK (Q .no) fun _ => wp lo e (uK Q fun l e1 => wp hi e1 (uK Q fun u e2 => getN e2 i (olK (Q .no) fun xs => Q (.ok (.o (.l (cut xs l u))) e2)) (Q .no)))) (Q .no) := by
  unfold wp cSlO
  refine (withO_wp (Q := Q)).trans ?_
  refine getN_k (congrArg (olK (Q .no)) ?_)
  funext _
  refine (RO_bind_wp (Q := Q)).trans ?_
  congr 1
  funext l e1
  refine (RO_bind_wp (Q := Q)).trans ?_
  congr 1
  funext u e2
  unfold getN olK
  cases h : e2[i]? with
  | none => rfl
  | some x => cases x with
    | own b o => cases o <;> rfl
    | _ => rfl
theorem Zjk : wp (cRv f) e Q = wp f e (bK Q fun d e1 => match d with | .lst xs => Q (.ok (.o (.l xs.reverse)) e1) | .ro xs => Q (.ok (.o (.l xs.reverse)) e1) | _ => Q .no) := by
  unfold wp cRv
  refine (R_bind_wp (Q := Q)).trans ?_
  congr 1
  funext d e1
  cases d <;> rfl
def chK (h : Env' → R) (q : D → D → Option RV) (y : D) (e : Env') (Q : R → Prop) : RV → Prop
  | .d (.bl b) => iteK b (wp h e (bK Q fun z e2 => oK (q y z) (Q .no) fun r => Q (.ok r e2))) (Q (.ok (.d (.bl false)) e))
  | _ => Q .no
theorem Zjp {q : D → D → Option RV} {y b} : chK h q y e Q (.d (.bl b)) = iteK b (wp h e (bK Q fun z e2 => oK (q y z) (Q .no) fun r => Q (.ok r e2))) (Q (.ok (.d (.bl false)) e)) := rfl
theorem Zjq {p q : D → D → Option RV} : wp (cCh p q f g h) e Q = wp f e (bK Q fun x e1 => wp g e1 (bK Q fun y e2 => oK (p x y) (Q .no) (chK h q y e2 Q))) := by
  unfold wp cCh
  refine (R_bind_wp (Q := Q)).trans ?_
  congr 1
  funext x e1
  refine (R_bind_wp (Q := Q)).trans ?_
  congr 1
  funext y e2
  unfold oK
  cases p x y with
  | none => rfl
  | some r =>
    cases r with
    | o o => rfl
    | d d =>
      cases d with
      | bl b =>
        cases b with
        | false => rfl
        | true =>
          refine (R_bind_wp (Q := Q)).trans ?_
          unfold chK iteK wp
          dsimp only
          rw [if_pos rfl]
          congr 1
          funext z e3
          exact Zbh
      | _ => rfl
end
theorem in_ints {neg : Bool} {i : Int} {ns : List Int} : pInF neg (.int i) (.tup (ns.map .int)) = some (.d (.bl (if neg then !decide (i ∈ ns) else decide (i ∈ ns)))) := by
  have h1 : ((ns.map D.int).all fun z => flatD z && noMix z (.int i)) = true := by rw [List.all_map]; rw [List.all_eq_true]; intro x _; rfl
  have h2 : ((ns.map D.int).any fun z => eqD z (.int i)) = decide (i ∈ ns) := by
    rw [List.any_map, Bool.eq_iff_iff, List.any_eq_true, decide_eq_true_iff]
    constructor
    · rintro ⟨x, hx, e⟩
      have : x = i := by simpa [eqD] using e
      rw [← this]; exact hx
    · intro h; exact ⟨i, h, by simp [eqD]⟩
  unfold pInF
  dsimp only
  rw [if_pos (by rw [h1]; rfl), h2]
theorem Zor {i : Int} {ns : List Int} : pIn (.int i) (.tup (ns.map .int)) = some (.d (.bl (decide (i ∈ ns)))) := by
  show orP pInS (orP (pInF false) _) _ _ = _
  unfold orP
  rw [show pInS (.int i) (.tup (ns.map .int)) = none from rfl, in_ints]
  rfl
theorem Zos {i : Int} {ns : List Int} : pNin (.int i) (.tup (ns.map .int)) = some (.d (.bl (!decide (i ∈ ns)))) := by
  show orP pNinS (orP (pInF true) _) _ _ = _
  unfold orP
  rw [show pNinS (.int i) (.tup (ns.map .int)) = none from rfl, in_ints]
  rfl
end L2.S

set_option Elab.async false
set_option linter.all false
set_option maxRecDepth 100000
set_option maxHeartbeats 400000
namespace L2.S
open PySem PySem.Spec PyProof.Rows
def SqB (m : Bool) (K : PySem.W.Frag) (H : Hp) (a : Addr) (vs : List V) : Prop := match m with | true => SqT K H a vs | false => SqL K H a vs
def atB (m : Bool) (h : Heap) (it l : Addr) (k : Nat) : Prop := match m with | true => h.IsTupleIter it l k | false => h.IsListIter it l k
def hasB (m : Bool) (h : Heap) (l : Addr) (its : Array Value) : Prop := match m with | true => h.IsTuple l its | false => h.IsList l its
def newB (m : Bool) (l : Addr) : Obj := match m with | true => { cls := .type "tuple_iterator", data := .fields #[.ref l, .int 0 0] } | false => { cls := .type "list_iterator", data := .fields #[.ref l, .int 0 0] }
theorem drawsB {m : Bool} {prog : Program} {w : World} {A : Around} (hh : A.handled = none) (it l : Addr) (hne : l ≠ it) (its : Array Value) : Draws prog w A it [it, l] its.size (fun k v => its[k]? = some v) (fun k h => atB m h it l k ∧ hasB m h l its) := by
  cases m with
  | true => exact Draws.tuple hh it l hne its
  | false => exact Draws.list hh it l hne its
theorem beginsB (m : Bool) (l : Addr) (its : Array Value) : Begins (.ref l) (newB m l) fun h => hasB m h l its := by
  cases m with
  | true => exact begins_tuple l its
  | false => exact begins_list l its
theorem newB_at {m : Bool} {h : Heap} {it l : Addr} (e : h.get? it = some (newB m l)) : atB m h it l 0 := by
  cases m with
  | true => exact ⟨_, e, rfl, rfl⟩
  | false => exact ⟨_, e, rfl, rfl⟩
theorem atB_obj {m : Bool} {h : Heap} {it l : Addr} {k : Nat} (x : atB m h it l k) : ∃ o, h.get? it = some o ∧ ∀ v, o.data ≠ .cell v := by
  cases m with
  | true => obtain ⟨o, ho, _, hd⟩ := x; exact ⟨o, ho, fun v q => by rw [hd] at q; cases q⟩
  | false => obtain ⟨o, ho, _, hd⟩ := x; exact ⟨o, ho, fun v q => by rw [hd] at q; cases q⟩
theorem atB_at {m : Bool} {h h' : Heap} {it l : Addr} {k : Nat} (x : atB m h it l k) (e : ∀ o, h.get? it = some o → h'.get? it = some o) : atB m h' it l k := by
  cases m with
  | true => exact Heap.IsTupleIter.at x e
  | false => exact Heap.IsListIter.at x e
theorem hasB_lt {m : Bool} {h : Heap} {l : Addr} {its : Array Value} (x : hasB m h l its) : l < h.objs.size := by
  cases m with
  | true => obtain ⟨_, ho, _⟩ := x; exact Heap.lt_size ho
  | false => obtain ⟨_, ho, _⟩ := x; exact Heap.lt_size ho
section
variable {X : Cx} {pins : List (Addr × Obj)} {σ : St} {H : Hp} {s : Shared}
theorem invB {m : Bool} (I : Inv X pins σ H s) {a : Addr} {vs : List V} (h : SqB m X.K H a vs) : ∃ its : List Value, Vals vs its ∧ hasB m s.heap a its.toArray := by
  cases m with
  | true => obtain ⟨its, r, p, _⟩ := I.tuple h; exact ⟨its, r, p⟩
  | false => obtain ⟨its, r, p, _⟩ := I.list h; exact ⟨its, r, p.isList⟩
theorem injB {m : Bool} (I : Inv X pins σ H s) {a : Addr} {vs us : List V} (h : SqB m X.K H a vs) (h' : SqB m X.K H a us) : vs = us := by
  cases m with
  | true => exact I.tuple_inj h h'
  | false => exact I.list_inj h h'
end
def ItzB (m n : Bool) (K : PySem.W.Frag) (a b : Addr) : It :=
  ⟨fun k H => ∃ (vs us : List V) (v u : V), SqB m K H a vs ∧ SqB n K H b us ∧ vs[k]? = some v ∧ us[k]? = some u,
   fun k H v' H' => ∃ t v u, v' = .ref t ∧ H t = none ∧ H' = upd H t (.tup [v, u]) ∧ (∀ vs, SqB m K H a vs → vs[k]? = some v) ∧ ∀ us, SqB n K H b us → us[k]? = some u,
   fun k H => ∃ vs us : List V, SqB m K H a vs ∧ SqB n K H b us ∧ k ≤ vs.length ∧ k ≤ us.length ∧ (k = vs.length ∨ k = us.length)⟩
def iZipB (K : PySem.W.Frag) (ta : TA) : TI := fun σ H Rr => ta σ H fun vs H1 => ∃ (m n : Bool) (a b : Addr) (xs ys : List V), vs = [.ref a, .ref b] ∧ SqB m K H1 a xs ∧ SqB n K H1 b ys ∧ Rr (ItzB m n K a b) H1
section
variable {X : Cx} {T : Tb} {W : WX} {e : Expr} {fa : Env' → RA} {pos p : Pos}
def iZq (fa : Env' → RA) : Env' → RI := fun env => (fa env).bindI fun as e => match as with
  | [.d (.tup xs), .d (.tup ys)] => .ok (zipD xs ys) e
  | [.d (.lst xs), .d (.lst ys)] => .ok (zipD xs ys) e
  | [.d (.lst xs), .d (.tup ys)] => .ok (zipD xs ys) e
  | [.d (.tup xs), .d (.lst ys)] => .ok (zipD xs ys) e
  | _ => .no
end
def zqK (N : Prop) (k : List D → Prop) : List AV → Prop
  | [.d (.tup xs), .d (.tup ys)] => k (zipD xs ys)
  | [.d (.lst xs), .d (.lst ys)] => k (zipD xs ys)
  | [.d (.lst xs), .d (.tup ys)] => k (zipD xs ys)
  | [.d (.tup xs), .d (.lst ys)] => k (zipD xs ys)
  | _ => N
theorem Zin {N k xs ys} : zqK N k [.d (.tup xs), .d (.tup ys)] = k (zipD xs ys) := rfl
theorem Zio {N k xs ys} : zqK N k [.d (.lst xs), .d (.lst ys)] = k (zipD xs ys) := rfl
theorem Ziq {N k xs ys} : zqK N k [.d (.lst xs), .d (.tup ys)] = k (zipD xs ys) := rfl
theorem Zir {N k xs ys} : zqK N k [.d (.tup xs), .d (.lst ys)] = k (zipD xs ys) := rfl
theorem Zim {fa : Env' → RA} {e : Env'} {QI : RI → Prop} : wp (iZq fa) e QI = wp fa e (aK QI fun as e1 => zqK (QI .no) (fun ds => QI (.ok ds e1)) as) := by
  unfold wp iZq
  refine (RA_bindI_wp (Q := QI)).trans ?_
  congr 1
  funext as e1
  unfold zqK
  split <;> rfl
end L2.S

set_option Elab.async false
set_option linter.all false
set_option maxRecDepth 100000
set_option maxHeartbeats 4000000
namespace L2.S
open PySem PySem.Spec PyProof.Rows
abbrev enC (it : Addr) : Obj := { cls := .type "enumerate", data := .fields #[.none, .bool false, .ref it, rawInt 0, .none, .none] }
theorem meets_en1 {v : Value} {o : Obj} {H : Heap → Prop} (B : Begins v o H) :
    Meets (Builtin.«enumerate.__new__» ⟨[.type "enumerate", v], []⟩) (fun _ R s => H s.heap ∧ R (.ok (.ret (.ref (s.heap.push o).objs.size))) { s with heap := (s.heap.push o).push (enC s.heap.objs.size) }) :=
  .of_wp fun prog w A R s hyp => by
    obtain ⟨hp, g, d, tk, os⟩ := s
    obtain ⟨h1, fin⟩ := hyp
    have hsub := sub_enumerate
    have step : ∀ {A' : Around} {E Q : Value → Shared → Prop}, Q (.ref hp.objs.size) ⟨hp.push o, g, d, tk, os⟩ → wpAny (model prog w) A' (pyIter v) Q E ⟨hp, g, d, tk, os⟩ := fun q => B.iter prog w _ _ ⟨hp, g, d, tk, os⟩ _ h1 q
    wp_walk using step
    refine wpAny_stack_any fun st => wpAny_pure ?_
    split
    · rename_i k _ _ _ _ _
      cases (k == Value.type "enumerate")
      · wp_walk using step
        exact ⟨_, rfl, fin⟩
      · wp_walk using step
        exact ⟨_, rfl, fin⟩
    · wp_walk using step
      exact ⟨_, rfl, fin⟩
theorem call_en1 {prog : Program} {w : World} {A : Around} {E : Value → Shared → Prop} {s : Shared} {v : Value} {o : Obj} {H : Heap → Prop} {Q : Value → Shared → Prop} (B : Begins v o H) (h1 : H s.heap)
    (fin : ∀ h', IsEnum h' (s.heap.objs.size + 1) s.heap.objs.size 0 .none → h'.get? s.heap.objs.size = some o → (∀ b o, s.heap.get? b = some o → h'.get? b = some o) → Q (.ref (s.heap.objs.size + 1)) { s with heap := h' }) :
    wpAny (model prog w) A (call (.type "enumerate") [v]) Q E s := by
  refine callType_new F.called_enumerate (by decide) (F.typeCall_enumerate_1 _) (F.newCall_enumerate_1 _) (fun obj => F.args_object_init_2 obj _) F.entry_enumerate_new (meets_en1 B) ⟨h1, ?_⟩
  have sz : (s.heap.push o).objs.size = s.heap.objs.size + 1 := Heap.size_push ..
  have e1 : ((s.heap.push o).push (enC s.heap.objs.size)).get? (s.heap.objs.size + 1) = some (enC s.heap.objs.size) := by
    have := Heap.get?_push_size (s.heap.push o) (o := enC s.heap.objs.size) rfl
    rwa [sz] at this
  show _ ∧ _
  rw [sz]
  exact ⟨⟨_, e1, rfl⟩, fin _ e1 (Heap.get?_push_of_some _ (Heap.get?_push_size _ B.free)) fun b o x => Heap.get?_push_of_some _ (Heap.get?_push_of_some _ x)⟩
def IteB (m : Bool) (K : PySem.W.Frag) (a : Addr) : It :=
  ⟨fun k H => ∃ (vs : List V) (v : V), SqB m K H a vs ∧ vs[k]? = some v,
   fun k H v' H' => ∃ t v, v' = .ref t ∧ H t = none ∧ H' = upd H t (.tup [.int (k : Nat), v]) ∧ ∀ vs, SqB m K H a vs → vs[k]? = some v,
   fun k H => ∃ vs : List V, SqB m K H a vs ∧ k = vs.length⟩
theorem turnEn {m : Bool} {P : Program} {w : World} {K : PySem.W.Frag} {es : List Expr} {kk : Nat} {tp : Pos} {a c j : Addr} (n1 : a ≠ j) (n2 : c ≠ j) (n3 : c ≠ a) :
    Turn P w K (.Tuple es kk tp) (IteB m K a) [c, j] c (fun k h => (∃ f, IsEnum h c j ((k : Nat) : Int) f) ∧ atB m h j a k) where
  mem := List.mem_cons_self ..
  obj := fun k h ⟨⟨f, g1⟩, g2⟩ b hm => by
    have two : b = c ∨ b = j := by simpa using hm
    rcases two with rfl | rfl
    · exact ⟨_, g1, fun v e => nomatch e⟩
    · exact atB_obj g2
  keep := fun k h h' ⟨⟨f, g1⟩, g2⟩ up => ⟨⟨f, up c (by simp) _ g1⟩, atB_at g2 (up j (by simp))⟩
  item := by
    intro X e1 e2 e3 calm k pins s σ H E I free st go
    subst e1 e2 e3
    obtain ⟨⟨f, g1⟩, g2⟩ := st
    obtain ⟨vs, v, q1, hv⟩ := go
    obtain ⟨is1, r1, p1⟩ := invB I q1
    have hh : X.A.in1.handled = none := I.ok.hd calm
    obtain ⟨x, hx, rx⟩ := r1.get hv
    have lt : k < is1.toArray.size := by have := (List.getElem?_eq_some_iff.mp hx).1; simpa using this
    have clt : c < s.heap.objs.size := Heap.lt_size g1
    refine wpAny_pyNext_enum_itemD (drawsB hh j a n1 is1.toArray) g1 ⟨g2, p1⟩ lt n2 (by simp [n2, n3]) fun x' h1 tk ex z1 d1 new _ up => ?_
    have ex : x' = x := by
      have : is1[k]? = some x' := by simpa using ex
      rw [hx] at this; cases this; rfl
    subst ex
    refine ⟨_, rfl, wpAny_letOwnedTupleGo_enum (s := { s with heap := h1, toks := tk + 1 }) z1 fun h2 z3 sb => ?_⟩
    have tnew : h2.get? s.heap.objs.size = some { cls := .type "tuple", data := .seq #[.int k tk, x'] } := (sb.2 _ (Nat.ne_of_gt clt)).trans new
    have made : ObjOk X.prog X.w (upd H s.heap.objs.size (.tup [.int (k : Nat), v])) h2 s.heap.objs.size (.tup [.int (k : Nat), v]) := ⟨(by show 2 ≤ sizeLine; decide), [.int k tk, x'], .cons ⟨_, rfl⟩ (.cons rx .nil), ⟨_, tnew, rfl, _, rfl⟩⟩
    have upz : ∀ b o, b ∉ [c, j] → s.heap.get? b = some o → h2.get? b = some o := fun b o hb q => by
      simp only [List.mem_cons, List.not_mem_nil, or_false, not_or] at hb
      exact (sb.2 b hb.1).trans (up b o hb.1 hb.2 q)
    have J := I.turnedNew (t' := tk + 1) upz free (Nat.le_refl _) made
    refine ⟨.ref s.heap.objs.size, _, J, rfl, ⟨_, v, rfl, I.hok.fresh (Nat.le_refl _), rfl, fun l hl => by rw [injB I hl q1]; exact hv⟩, ⟨⟨x', ?_⟩, atB_at d1.1 fun o q => (sb.2 _ n2.symm).trans q⟩, fun b hm => ?_⟩
    · have : ((k + 1 : Nat) : Int) = (k : Int) + 1 := by omega
      rw [this]; exact z3
    · have lt : b < s.heap.objs.size := by
        have two : b = c ∨ b = j := by simpa using hm
        rcases two with rfl | rfl
        · exact clt
        · obtain ⟨_, q, _⟩ := atB_obj g2; exact Heap.lt_size q
      rw [upd_ne (Nat.ne_of_lt lt)]
      exact (free b hm).1
  done := by
    intro X e1 e2 e3 calm k pins s σ H E I free st stop
    subst e1 e2 e3
    obtain ⟨⟨f, g1⟩, g2⟩ := st
    obtain ⟨vs, q1, fin⟩ := stop
    obtain ⟨is1, r1, p1⟩ := invB I q1
    have hh : X.A.in1.handled = none := I.ok.hd calm
    have m1 : is1.toArray.size = k := by have := r1.length; simp; omega
    have g2 : atB m s.heap j a is1.toArray.size := by rw [m1]; exact g2
    exact wpAny_pyNext_enum_endD (drawsB hh j a n1 is1.toArray) g1 ⟨g2, p1⟩ fun h' up => ⟨rfl, I.turnedL (t' := s.toks) (ch := [c, j]) (fun b o hb q => up b o (fun e => hb (by simp [e])) q) free⟩
  self := fun A k s Q E st h => let ⟨⟨_, g1⟩, _⟩ := st; wpAny_pyIter_enum g1 h
def iEnB (K : PySem.W.Frag) (ta : TA) : TI := fun σ H Rr => ta σ H fun vs H1 => ∃ (m : Bool) (a : Addr) (xs : List V), vs = [.ref a] ∧ SqB m K H1 a xs ∧ Rr (IteB m K a) H1
section
variable {X : Cx} {T : Tb} {W : WX} {e : Expr} {fa : Env' → RA} {pos p : Pos}
theorem walk_enB {m : Bool} {Z : Hp} {p1 : Addr} {vs : List V} {xs : List D} (hT : X.K = T.K) (h1 : SqB m T.K Z p1 vs) (r1 : Reps T Z vs xs) : Walk T Z (IteB m X.K p1) (enuD xs) where
  go := fun i d Z' H e s s' => by
    have up : SqB m X.K H p1 vs := by
      rw [hT]
      cases m with
      | true => exact sqt_mono (s.trans s') h1
      | false => exact (s.trans s').seq h1
    unfold enuD at e
    rw [List.getElem?_map, List.getElem?_zipIdx] at e
    cases q : xs[i]? with
    | none => rw [q] at e; cases e
    | some x =>
      rw [q] at e
      cases e
      obtain ⟨v, ev, rv⟩ := r1.get q
      refine ⟨⟨vs, v, up, ev⟩, fun u H' y => ?_⟩
      obtain ⟨t, v', rfl, ht, rfl, k1⟩ := y
      have := k1 vs up
      rw [ev] at this
      cases this
      have := walk_pair (v := .int (i : Nat)) (x := .int (i : Nat)) s s' ht (.int _) rv
      simpa using this
  stop := fun Z' H s s' => by
    have up : SqB m X.K H p1 vs := by
      rw [hT]
      cases m with
      | true => exact sqt_mono (s.trans s') h1
      | false => exact (s.trans s').seq h1
    refine ⟨vs, up, ?_⟩
    unfold enuD
    rw [List.length_map, List.length_zipIdx, r1.length]
def iEq (fa : Env' → RA) : Env' → RI := fun env => (fa env).bindI fun as e => match as with
  | [.d (.lst xs)] => .ok (enuD xs) e
  | [.d (.tup xs)] => .ok (enuD xs) e
  | _ => .no
end
def eqK (N : Prop) (k : List D → Prop) : List AV → Prop
  | [.d (.lst xs)] => k (enuD xs)
  | [.d (.tup xs)] => k (enuD xs)
  | _ => N
theorem Ziv {N k xs} : eqK N k [.d (.lst xs)] = k (enuD xs) := rfl
theorem Ziw {N k xs} : eqK N k [.d (.tup xs)] = k (enuD xs) := rfl
theorem Ziu {fa : Env' → RA} {e : Env'} {QI : RI → Prop} : wp (iEq fa) e QI = wp fa e (aK QI fun as e1 => eqK (QI .no) (fun ds => QI (.ok ds e1)) as) := by
  unfold wp iEq
  refine (RA_bindI_wp (Q := QI)).trans ?_
  congr 1
  funext as e1
  unfold eqK
  split <;> rfl
end L2.S

set_option Elab.async false
set_option linter.all false
set_option maxRecDepth 100000
set_option maxHeartbeats 1000000
namespace L2.S
open PySem PySem.Spec PyProof.Rows GQ
section
variable {prog : Program} {w : World} {A : Around} {R : Result → Shared → Prop}
end
section
variable {prog : Program} {w : World} {A : Around} {E : Value → Shared → Prop} {s : Shared}
end
section
variable {X : Cx} {T : Tb} {W : WX}
structure OwnQ (X : Cx) (T : Tb) (c : Nat) (φ : Fn) : Prop where
  op : ∃ k fx, FnC X.prog X.w X.K X.mg X.base T k φ [] fx ∧ Room (k + 6) X.A ∧ PySem.W.findIn X.K (.ref (T.cl c)) "__eq__" = some (some (.ref fx)) ∧ PySem.W.isFn X.K (.ref fx) = true
def OwnQs (X : Cx) (T : Tb) (M : List (Nat × Fn)) : Prop := ∀ c φ, M.lookup c = some φ → OwnQ X T c φ
def okQ (M : List (Nat × Fn)) : Nat → D → D → Prop
  | 0, x, y => flatD x = true ∧ flatD y = true ∧ noMix x y = true
  | n + 1, x, y => (flatD x = true ∧ flatD y = true ∧ noMix x y = true) ∨ (∃ xs ys, x = .tup xs ∧ y = .tup ys ∧ ∀ (i : Nat) (a b : D), xs[i]? = some a → ys[i]? = some b → okQ M n a b) ∨
    (∃ c xs ys φ, x = .obj c xs ∧ y = .obj c ys ∧ M.lookup c = some φ ∧ φ [.val x, .val y] = .ok (.d (.bl (eqD x y))) [] ∧ xs.length = ys.length ∧ ∀ (i : Nat) (a b : D), xs[i]? = some a → ys[i]? = some b → okQ M n a b)
variable {pins : List (Addr × Obj)} {σ : St} {H Z : Hp} {s : Shared} {G : Gd} {B : List (Nat × Addr)} {env : Env'} {M : List (Nat × Fn)}
structure DeepA (X : Cx) (j : Nat) (A : Around) : Prop where
  fr : A.frames = X.A.frames
  room : ∀ k, Room (k + 6) X.A → Room (k + (6 - j)) A
theorem DeepA.in1 {j : Nat} {A : Around} (d : DeepA X j A) (hj : j < 6) : DeepA X (j + 1) A.in1 := ⟨d.fr, fun k h => by
  have := d.room k h
  rw [show k + (6 - j) = (k + (6 - (j + 1))) + 1 by omega] at this
  exact this.in1⟩
def LQ (X : Cx) (T : Tb) (pins : List (Addr × Obj)) (σ : St) (G : Gd) (B : List (Nat × Addr)) (Z : Hp) (env : Env') (s' : Shared) : Prop := ∃ H' Z', Inv X pins σ H' s' ∧ Same Z Z' ∧ EOk T G B Z' H' σ env
open Classical in
noncomputable def pEqQ (neg : Bool) (M : List (Nat × Fn)) (p0 : D → D → Env' → R) : D → D → Env' → R := fun x y e => if okQ M 4 x y ∧ kd x = 4 ∧ kd y = 4 then .ok (.d (.bl (if neg then !eqD x y else eqD x y))) e else p0 x y e
end
section
variable {neg : Bool} {M : List (Nat × Fn)} {p0 : D → D → Env' → R} {e : Env'} {Q : R → Prop} {x y : D} {xs ys : List D}
theorem rK_eqQ_n (h : kd x ≠ 4) : rK (pEqQ neg M p0 x y e) Q = rK (p0 x y e) Q := by
  unfold rK pEqQ
  rw [if_neg fun z => h z.2.1]
theorem Zeo {c : Nat} : rK (pEqQ neg M p0 (.obj c xs) y e) Q = rK (p0 (.obj c xs) y e) Q := rK_eqQ_n (by simp [kd]; omega)
theorem Zeq {i : Int} : rK (pEqQ neg M p0 (.int i) y e) Q = rK (p0 (.int i) y e) Q := rK_eqQ_n (by simp [kd])
theorem Zes {b : Bool} : rK (pEqQ neg M p0 (.bl b) y e) Q = rK (p0 (.bl b) y e) Q := rK_eqQ_n (by simp [kd])
theorem Zeu {l : List Nat} : rK (pEqQ neg M p0 (.str l) y e) Q = rK (p0 (.str l) y e) Q := rK_eqQ_n (by simp [kd])
theorem Zew : rK (pEqQ neg M p0 .non y e) Q = rK (p0 .non y e) Q := rK_eqQ_n (by simp [kd])
theorem Zey : rK (pEqQ neg M p0 (.lst xs) y e) Q = rK (p0 (.lst xs) y e) Q := rK_eqQ_n (by simp [kd])
end
end L2.S

set_option Elab.async false
set_option linter.all false
set_option maxRecDepth 100000
set_option maxHeartbeats 2000000
namespace L2.S
open PySem PySem.Spec PyProof.Rows
section
variable {X : Cx} {T : Tb} {W : WX} {e : Expr} {fa : Env' → RA} {pos p : Pos}
structure OwnL (X : Cx) (T : Tb) (c : Nat) (φ : Fn) : Prop where
  op : ∃ k fx, FnC X.prog X.w X.K X.mg X.base T k φ [] fx ∧ Room (k + 1) X.A ∧ PySem.W.findIn X.K (.ref (T.cl c)) "__len__" = some (some (.ref fx)) ∧ PySem.W.isFn X.K (.ref fx) = true
def OwnLs (X : Cx) (T : Tb) (M : List (Nat × Fn)) : Prop := ∀ c φ, M.lookup c = some φ → OwnL X T c φ
def R.lenTo : R → R
  | .ok (.d (.int n)) e => if 0 ≤ n ∧ n < 4611686018427387904 then .ok (.d (.int n)) e else .no
  | .ex x e => .ex x e
  | _ => .no
def lenM (M : List (Nat × Fn)) (as : List AV) (e : Env') : R := match as with
  | [.d (.obj c xs)] => (match M.lookup c with
    | some φ => (callR φ [] [.d (.obj c xs)] e).lenTo
    | none => .no)
  | as => (match avD as with | some ds => (match bLen ds with | some r => .ok r e | none => .no) | none => .no)
def cLenM (M : List (Nat × Fn)) (fa : Env' → RA) : Env' → R := fun env => (fa env).bind fun as e => lenM M as e
end
section
variable {M : List (Nat × Fn)} {fa : Env' → RA} {e : Env'} {Q : R → Prop} {xs : List D} {c : Nat}
def lnK (M : List (Nat × Fn)) (as : List AV) (e : Env') (Q : R → Prop) (_ : Pin (e, Q) := ⟨⟩) : Prop := Q (lenM M as e)
theorem Zfa : wp (cLenM M fa) e Q = wp fa e (aK Q fun as e1 => lnK M as e1 Q) := by
  unfold wp cLenM
  exact RA_bind_wp (Q := Q)
def ltK (Q : R → Prop) : R → Prop := fun r => Q r.lenTo
theorem Zfb {n : Int} : ltK Q (.ok (.d (.int n)) e) = iteK (decide (0 ≤ n ∧ n < 4611686018427387904)) (Q (.ok (.d (.int n)) e)) (Q .no) := by
  show Q (if 0 ≤ n ∧ n < 4611686018427387904 then .ok (.d (.int n)) e else .no) = _
  unfold iteK
  by_cases h : 0 ≤ n ∧ n < 4611686018427387904
  · simp [h]
  · simp [h]
theorem Zfc : lnK M [.d (.obj c xs)] e Q = oK (M.lookup c) (Q .no) fun φ => fK (φ [.val (.obj c xs)]) (ltK Q) [.d (.obj c xs)] e := by
  unfold lnK lenM oK
  dsimp only
  cases M.lookup c with
  | none => rfl
  | some φ =>
    refine (callR_wp (Q := ltK Q)).trans ?_
    exact svsK_s (by rw [nod_d, nod_0]; trivial)
theorem Zfd : lnK M [.d (.tup xs)] e Q = Q (.ok (.d (.int xs.length)) e) := rfl
theorem Zfe : lnK M [.d (.lst xs)] e Q = Q (.ok (.d (.int xs.length)) e) := rfl
theorem Zff : lnK M [.d (.ro xs)] e Q = Q (.ok (.d (.int xs.length)) e) := rfl
end
end L2.S

set_option Elab.async false
set_option linter.all false
set_option maxRecDepth 100000
set_option maxHeartbeats 2000000
namespace L2.S
section
variable {vs : List Nat} {h : D → Env' → Option Env'} {c : Env' → RT} {f : Env' → R} {K : Option D → Env' → Prop}
def lcF2 (vs : List Nat) (K : Option D → Env' → Prop) : R → Prop := fun r => match r with
  | .ok r e3 => (match fz r with | some y => canWipe e3 vs = true ∧ K (some y) (wipeE e3 vs) | none => False)
  | _ => False
def lcF1 (vs : List Nat) (f : Env' → R) (K : Option D → Env' → Prop) : RT → Prop := fun r => match r with
  | .ok true e2 => wp f e2 (lcF2 vs K)
  | .ok false e2 => canWipe e2 vs = true ∧ K none (wipeE e2 vs)
  | _ => False
theorem Zif {y : D} {e : Env'} : lcF2 vs K (.ok (.d y) e) = (canWipe e vs = true ∧ K (some y) (wipeE e vs)) := rfl
theorem Zig {l : List D} {e : Env'} : lcF2 vs K (.ok (.o (.l l)) e) = (canWipe e vs = true ∧ K (some (.lst l)) (wipeE e vs)) := rfl
theorem Zid {e : Env'} : lcF1 vs f K (.ok true e) = wp f e (lcF2 vs K) := rfl
theorem Zie {e : Env'} : lcF1 vs f K (.ok false e) = (canWipe e vs = true ∧ K none (wipeE e vs)) := rfl
theorem lc_thr {e : Env'} {Q : R → Prop} {ds : List D} (P : Nat → List D → Env' → Prop) (hw : canWipe e vs = true) (hn : ds.length ≤ 16777216) (h0 : P 0 [] (wipeE e vs))
    (st : ∀ i d acc w, ds[i]? = some d → acc.length ≤ i → P i acc w → gK h d w (fun e1 => wp c e1 (lcF1 vs f fun y w' => P (i + 1) (match y with | some y => acc ++ [y] | none => acc) w')) False)
    (fin : ∀ acc w, P ds.length acc w → Q (.ok (.o (.l acc)) (backE e w vs))) : lcK vs h c f ds e Q := by
  have go : ∀ (l : List D) (k : Nat) (acc : List D) (w : Env'), ds.drop k = l → acc.length ≤ k → k ≤ ds.length → P k acc w → ∃ acc' w', lcL vs h c f l acc w = some (acc', w') ∧ P ds.length acc' w' := by
    intro l
    induction l with
    | nil =>
      intro k acc w hd ha hk p
      have : k = ds.length := by
        have := congrArg List.length hd
        simp at this
        omega
      subst this
      exact ⟨acc, w, rfl, p⟩
    | cons d l ih =>
      intro k acc w hd ha hk p
      have hg : ds[k]? = some d := by
        have := congrArg (fun z => z[0]?) hd
        simpa [List.getElem?_drop] using this
      have hlt : k < ds.length := (List.getElem?_eq_some_iff.mp hg).1
      have hd2 : ds.drop (k + 1) = l := by
        have := congrArg (fun z => z.drop 1) hd
        simpa [List.drop_drop, Nat.add_comm] using this
      have q := st k d acc w hg ha p
      unfold gK at q
      unfold lcL
      cases hh : h d w with
      | none => rw [hh] at q; exact q.elim
      | some e1 =>
        rw [hh] at q
        dsimp only
        have q : lcF1 vs f _ (c e1) := q
        cases hc : c e1 with
        | ok b e2 =>
          rw [hc] at q
          cases b with
          | true =>
            rw [Zid] at q
            unfold wp at q
            dsimp only
            cases hf : f e2 with
            | ok r e3 =>
              rw [hf] at q
              unfold lcF2 at q
              dsimp only at q ⊢
              cases hz : fz r with
              | none => rw [hz] at q; exact q.elim
              | some y =>
                rw [hz] at q
                dsimp only at q ⊢
                rw [if_pos ⟨by omega, q.1⟩]
                exact ih (k + 1) (acc ++ [y]) (wipeE e3 vs) hd2 (by simp; omega) hlt q.2
            | ex x e3 => rw [hf] at q; exact q.elim
            | no => rw [hf] at q; exact q.elim
          | false =>
            rw [Zie] at q
            dsimp only
            rw [if_pos q.1]
            exact ih (k + 1) acc (wipeE e2 vs) hd2 (by omega) hlt q.2
        | ex x e2 => rw [hc] at q; exact q.elim
        | no => rw [hc] at q; exact q.elim
  obtain ⟨acc, w, h1, h2⟩ := go ds 0 [] (wipeE e vs) rfl (Nat.le_refl _) (Nat.zero_le _) h0
  unfold lcK
  rw [if_pos hw, h1]
  exact fin acc w h2
end
end L2.S

set_option Elab.async false
set_option linter.all false
set_option maxRecDepth 100000
set_option maxHeartbeats 4000000
namespace L2.S
open PySem PySem.Spec PyProof.Rows
section
variable {X : Cx} {T : Tb} {W : WX} {e tg : Expr} {fa : Env' → RA} {f : Env' → R} {pos p : Pos}
def iRv (fa : Env' → RA) : Env' → RI := fun env => (fa env).bindI fun as e => match as with
  | [.d (.lst xs)] => .ok xs.reverse e
  | _ => .no
def cPop (i : Nat) : Env' → R := fun e => match e[i]? with
  | some (.own b (.l xs)) => (match xs[xs.length - 1]? with | some y => .ok (.d y) (e.set i (.own b (.l xs.dropLast))) | none => .no)
  | _ => .no
theorem Reps.dropLast {Z : Hp} : ∀ {vs : List V} {ds : List D}, Reps T Z vs ds → Reps T Z vs.dropLast ds.dropLast := fun r => by
  rw [List.dropLast_eq_take, List.dropLast_eq_take, r.length]
  exact r.take _
def cPopAt (i : Nat) (f : Env' → R) : Env' → R := fun env => withO i env ((f env).bind fun d e => match e[i]?, d with
  | some (.own b (.l xs)), .int k => if -4611686018427387904 ≤ k ∧ k < 4611686018427387904 then (match ixN xs.length k with
    | some j => (match xs[j]? with | some y => .ok (.d y) (e.set i (.own b (.l (xs.eraseIdx j)))) | none => .no)
    | none => .no) else .no
  | _, _ => .no)
def cExt (i : Nat) (f : Env' → R) : Env' → R := fun env => withO i env ((f env).bind fun d e => match e[i]?, d with
  | some (.own b (.l xs)), .lst ys => if xs.length + ys.length ≤ 16777216 then .ok (.d .non) (e.set i (.own b (.l (xs ++ ys)))) else .no
  | _, _ => .no)
def cRvs (i : Nat) : Env' → R := fun e => match e[i]? with
  | some (.own b (.l xs)) => .ok (.d .non) (e.set i (.own b (.l xs.reverse)))
  | _ => .no
end
def idxC (c : Nat) (l : List Nat) : Int := match l.findIdx? (fun d => d == c) with | some i => (i : Int) | none => -1
def qFind : List Nat → List D → Option RV := fun l ds => match ds with
  | [.str [c]] => some (.d (.int (idxC c l)))
  | _ => none
section
variable {T : Tb}
end
section
variable {e : Env'} {Q : R → Prop} {QI : RI → Prop} {f : Env' → R} {fa : Env' → RA} {i : Nat}
def rvL (N : Prop) (k : List D → Prop) : List AV → Prop
  | [.d (.lst xs)] => k xs.reverse
  | _ => N
theorem Zkf {N k xs} : rvL N k [.d (.lst xs)] = k xs.reverse := rfl
theorem Zke : wp (iRv fa) e QI = wp fa e (aK QI fun as e1 => rvL (QI .no) (fun ds => QI (.ok ds e1)) as) := by
  unfold wp iRv
  refine (RA_bindI_wp (Q := QI)).trans ?_
  congr 1
  funext as e1
  unfold rvL
  split <;> rfl
theorem Zkg : wp (cPop i) e Q = getN e i (olK (Q .no) fun xs => oK xs[xs.length - 1]? (Q .no) fun y => ownPut e i (.l xs.dropLast) fun e1 => Q (.ok (.d y) e1)) (Q .no) := by
  unfold wp cPop getN olK ownPut setO oK
  cases he : e[i]? with
  | none => rfl
  | some x => cases x with
    | own b o => cases o with
      | l xs =>
        dsimp only
        cases hy : xs[xs.length - 1]? with
        | none => simp [hy]
        | some y => simp [hy]
      | _ => rfl
    | _ => rfl
theorem Zkh : wp (cRvs i) e Q = getN e i (olK (Q .no) fun xs => ownPut e i (.l xs.reverse) fun e1 => Q (.ok (.d .non) e1)) (Q .no) := by
  unfold wp cRvs getN olK ownPut setO
  cases he : e[i]? with
  | none => rfl
  | some x => cases x with
    | own b o => cases o <;> rfl
    | _ => rfl
def bI62 (k : Int) : Bool := decide (-4611686018427387904 ≤ k ∧ k < 4611686018427387904)
theorem Zki : wp (cPopAt i f) e Q = getN e i (olK (Q .no) fun _ => wp f e (bK Q fun d e1 => getN e1 i (olK (Q .no) fun xs => intK (Q .no) (fun k => iteK (bI62 k) (oK (ixN xs.length k) (Q .no) fun j => oK xs[j]? (Q .no) fun y => ownPut e1 i (.l (xs.eraseIdx j)) fun e2 => Q (.ok (.d y) e2)) (Q .no)) d) (Q .no))) (Q .no) := by
  unfold cPopAt
  refine (withO_wp (Q := Q)).trans ?_
  refine getN_k (congrArg (olK (Q .no)) ?_)
  funext _
  refine (R_bind_wp (Q := Q)).trans ?_
  congr 1
  funext d e1
  unfold getN olK intK oK ownPut setO iteK bI62
  cases h : e1[i]? with
  | none => rfl
  | some x => cases x with
    | own b o => cases o with
      | l xs => cases d with
        | int k =>
          dsimp only
          by_cases hk : -4611686018427387904 ≤ k ∧ k < 4611686018427387904
          · rw [if_pos hk, if_pos (decide_eq_true hk)]
            cases hj : ixN xs.length k with
            | none => rfl
            | some j =>
              dsimp only
              cases hy : xs[j]? with
              | none => rfl
              | some y => rfl
          · rw [if_neg hk, if_neg (by simpa using hk)]
        | _ => rfl
      | _ => rfl
    | _ => rfl
def lstK (N : Prop) (k : List D → Prop) : D → Prop
  | .lst xs => k xs
  | _ => N
theorem Zkk {N k xs} : lstK N k (.lst xs) = k xs := rfl
theorem Zkj : wp (cExt i f) e Q = getN e i (olK (Q .no) fun _ => wp f e (bK Q fun d e1 => getN e1 i (olK (Q .no) fun xs => lstK (Q .no) (fun ys => iteK (decide (xs.length + ys.length ≤ 16777216)) (ownPut e1 i (.l (xs ++ ys)) fun e2 => Q (.ok (.d .non) e2)) (Q .no)) d) (Q .no))) (Q .no) := by
  unfold cExt
  refine (withO_wp (Q := Q)).trans ?_
  refine getN_k (congrArg (olK (Q .no)) ?_)
  funext _
  refine (R_bind_wp (Q := Q)).trans ?_
  congr 1
  funext d e1
  unfold getN olK lstK ownPut setO iteK
  cases h : e1[i]? with
  | none => rfl
  | some x => cases x with
    | own b o => cases o with
      | l xs => cases d with
        | lst ys => by_cases hl : xs.length + ys.length ≤ 16777216 <;> simp [hl]
        | _ => rfl
      | _ => rfl
    | _ => rfl
theorem Zpc {l : List Nat} {c : Nat} : qFind l [.str [c]] = some (.d (.int (idxC c l))) := rfl
end
end L2.S

set_option Elab.async false
set_option linter.all false
set_option maxRecDepth 100000
set_option maxHeartbeats 4000000
namespace L2.S
open PySem PySem.Spec PyProof.Rows
def oexIn (K : PySem.W.Frag) (C : Addr) : Bool := match K.lookup C with
  | some ⟨.type "type", _, .cls cd, sl⟩ => (match cd.mro, sl.toList with
    | .ref C' :: bm, [_, _, _, _, some (.builtin n), _] => C' == C && n == "ValueError.__new__" && !cd.hasDel && cd.hasDict && PySem.HandSPX.refsVE bm
    | _, _ => false)
  | _ => false
def supCx (CX : CXT) (P : Program) (w : World) (K : PySem.W.Frag) (mg : Str → Option Value) (base : Heap) (N : List Str) (qual : Str) (scope : Scope) (f : Addr) (cd : Value) (cc : Addr) (A : Around) (outer : List Env) (s : Shared) (H : Hp) (E : XK) : Cx where
  prog := P
  w := w
  K := K
  mg := mg
  base := base
  A := A.deeper (PySem.W.ksEnv qual scope s.heap.objs.size f cd cc)
  N := N
  s_0 := s
  H_0 := H
  env := PySem.W.ksEnv qual scope s.heap.objs.size f cd cc
  outer := outer
  stack := PySem.W.ksEnv qual scope s.heap.objs.size f cd cc :: outer
  ex := []
  calm := true
  fn := fun _ => false
  pn := []
  xe := fun e s' => wpAny (model P w) (A.deeper (PySem.W.ksEnv qual scope s.heap.objs.size f cd cc)) (leaving (PySem.W.ksEnv qual scope s.heap.objs.size f cd cc) e) (fun _ s'' => CX outer H s E e s'') (fun e' s'' => CX outer H s E e' s'') s'
structure SupScope (N : List Str) (sc : Scope) : Prop where
  kind : sc.kind = .function
  co : sc.isCoroutine = false
  gen : sc.isGenerator = false
  nd : N.Nodup
  par : ∀ x ∈ N, sc.names.lookup x = some .local
  nocell : ∀ y ∈ sc.names, y.2 ≠ .cell
  free : ∀ y ∈ sc.names, y.2 = .free → y.1 = ("__class__" : Str)
  cls : sc.names.lookup ("__class__" : Str) = some .free
  sup : sc.names.lookup ("super" : Str) = some .globalImplicit
structure SupD (P : Program) (K : PySem.W.Frag) (nm qual : Str) (params : Arguments) (body : List Stmt) (scope : Scope) (C f : Addr) (fd : FuncData) : Prop where
  ex : ∃ (oc : Value) (od : Option Addr) (kV doc pm : Value) (an : Option Addr) (cda : Addr) (ct : Value) (osl : Array (Option Value)) (cc : Addr) (cl : Value) (cld : Option Addr) (csl : Array (Option Value)) (ccl : Value) (cdd : Option Addr) (vs : Array Value) (ccs : Array (Option Value)) (file : Str) (tf : Tok),
    fd = PySem.W.ksFn nm qual params body scope .none kV doc pm an (.ref cda) ct cc ∧ K.lookup f = some ⟨oc, od, .func fd, osl⟩ ∧ PySem.W.codeIn K (.ref cda) qual = true ∧ K.lookup cc = some ⟨cl, cld, .cell (some (.ref C)), csl⟩ ∧
    K.lookup cda = some ⟨ccl, cdd, .fields vs, ccs⟩ ∧ vs[2]? = some (.str file tf) ∧ ((P.main.file : Str) == file) = true
  sup : PySem.W.ks_superIn K C C "__init__" = some (some (.builtin "ValueError.__init__"))
  opq : PySem.W.nsIn K cStatics "thirdparty.any" = some none
  ve : PySem.W.subIn K (.ref C) (.type "ValueError") = some true
  mro : PySem.W.mroIn K C (.ref C) = some true
def spSup (C : Addr) (fld : Str) (ok : V → Prop) : Sp := fun vs H Q _ => ∃ a r, vs = [.ref a, r] ∧ ok r ∧ H a = some (exo a C none) ∧ ∀ dx, H dx = none → dx ≠ a → Q .non (upd (upd H dx (exd dx [(fld, r)])) a (exo a C (some dx)))
def sRaiseV (c : Nat) (okD : D → Bool) (f : Env' → R) : Env' → RS := fun env => (f env).bindS fun d e => if okD d then .ex ⟨c, [d]⟩ e else .no
structure ExcS (X : Cx) (T : Tb) (c : Nat) (okD : D → Bool) (k : Nat) : Prop where
  ex : ∃ (fI : Addr) (fd : FuncData) (ps : List Str) (fld : Str) (ok : V → Prop), OexC X.K (T.ec c) ∧ PySem.W.findIn X.K (.ref (T.ec c)) "__init__" = some (some (.ref fI)) ∧ PySem.W.typeIn X.K (.ref fI) = some (.type "function") ∧
    FnOk X.prog X.w X.K X.mg X.base (L2.CX X.prog X.w) k fI fd ps (spSup (T.ec c) fld ok) ∧ Binds X.K fd ps [] ∧ T.ef c = [fld] ∧ ∀ (Z : Hp) (v : V) (d : D), okD d = true → Rep T Z v d → ok v
def okTx : D → Bool
  | .str l => decide (l.length ≤ 1000)
  | _ => false
def okIn : D → Bool
  | .int i => decide (i.natAbs.log2 < 1920)
  | _ => false
def okTxV : V → Prop := fun v => ∃ z : Str, v = .str z ∧ z.length ≤ 1000
def okInV : V → Prop := fun v => ∃ i : Int, v = .int i ∧ i.natAbs.log2 < 1920
end L2.S

set_option Elab.async false
set_option linter.all false
set_option maxRecDepth 100000
set_option maxHeartbeats 4000000
namespace L2.S
open PySem PySem.Spec PyProof.Rows
def ItAt (v : V) (it : Addr) (h : Heap) : Prop := match v with
  | .ref p => h.get? it = some { cls := .type "tuple_iterator", data := .fields #[.ref p, .int 0 0] }
  | .str x => ∃ t, h.get? it = some { cls := .type (if x.cps.all (· < 128) then "str_ascii_iterator" else "str_iterator"), data := .fields #[.str x t, .int 0 0] }
  | _ => False
def ItV (K : PySem.W.Frag) (H : Hp) (v : V) : Prop := (∃ p xs, v = .ref p ∧ SqT K H p xs) ∨ ∃ x, v = .str x
section
variable {X : Cx} {pins : List (Addr × Obj)} {σ : L2.St} {H : Hp} {s : Shared}
end
structure OwnIt (X : Cx) (T : Tb) (c kf : Nat) : Prop where
  go : ∃ (k : Nat) (fi : Addr) (fld : Str), Room k X.A ∧ PySem.W.findIn X.K (.ref (T.cl c)) "__iter__" = some (some (.ref fi)) ∧ PySem.W.isFn X.K (.ref fi) = true ∧ (T.fl c)[kf]? = some fld ∧ (T.fl c).Nodup ∧
    ∀ (A : Around) (outer : List Env) (s : Shared) (H : Hp) (a dx : Addr) (fs : List (Str × V)) (v : V), Room k A → Env0 X.prog X.w X.K X.mg X.base A outer s H → H a = some (.ins (T.cl c) dx fs) → fs.lookup fld = some v → ItV X.K H v →
      codeAny (model X.prog X.w) A (.call (.ref fi) ⟨[.ref a], []⟩) (fun r s' => ∃ it, r = .ok (.ret (.ref it)) ∧ s.heap.objs.size ≤ it ∧ ItAt v it s'.heap ∧ s'.os = s.os ∧ AllBare s'.gens ∧ Un (frs outer) [] H H s.heap s'.heap ∧ HOk X.prog X.w H s'.heap) s
def OwnIts (X : Cx) (T : Tb) (M : List (Nat × Nat)) : Prop := ∀ c k, M.lookup c = some k → OwnIt X T c k
def itemsI : D → Option (List D)
  | .tup ds => some ds
  | .str l => some (l.map fun c => .str [c])
  | _ => none
def iDM (M : List (Nat × Nat)) (f : Env' → R) : Env' → RI := fun env => match f env with
  | .ok (.d (.obj c xs)) e => (match M.lookup c with
    | some k => (match xs[k]? with
      | some d => (match itemsI d with | some ds => .ok ds e | none => .no)
      | none => .no)
    | none => .no)
  | r => iD (fun _ => r) env
section
variable {X : Cx} {T : Tb} {W : WX} {a tg : Expr} {f : Env' → R}
end
section
variable {M : List (Nat × Nat)} {e : Env'} {f : Env' → R} {QI : RI → Prop}
def idMK (M : List (Nat × Nat)) (QI : RI → Prop) : R → Prop
  | .ok (.d (.obj c xs)) e => oK (M.lookup c) (QI .no) fun k => oK xs[k]? (QI .no) fun d => oK (itemsI d) (QI .no) fun ds => QI (.ok ds e)
  | .ok (.d d) e => oK (itemsD d) (QI .no) fun ds => QI (.ok ds e)
  | .ok (.o (.l xs)) e => QI (.ok xs e)
  | .ok (.o (.s _ _)) _ => QI .no
  | .ex x e => QI (.ex x e)
  | .no => QI .no
theorem Zkl : wp (iDM M f) e QI = wp f e (idMK M QI) := by
  unfold wp iDM
  cases hf : f e with
  | ok r e1 =>
    cases r with
    | d d =>
      cases d with
      | obj c xs =>
        unfold idMK oK
        dsimp only
        cases M.lookup c with
        | none => rfl
        | some k =>
          dsimp only
          cases xs[k]? with
          | none => rfl
          | some d =>
            dsimp only
            cases itemsI d <;> rfl
      | _ =>
        unfold idMK iD oK
        dsimp only
        first | rfl | (split <;> rename_i h <;> simp [h])
    | o o => cases o <;> rfl
  | _ => rfl
theorem Zkm {c xs e1} : idMK M QI (.ok (.d (.obj c xs)) e1) = oK (M.lookup c) (QI .no) fun k => oK xs[k]? (QI .no) fun d => oK (itemsI d) (QI .no) fun ds => QI (.ok ds e1) := rfl
theorem Zkn {xs e1} : idMK M QI (.ok (.d (.tup xs)) e1) = QI (.ok xs e1) := rfl
theorem Zko {xs e1} : idMK M QI (.ok (.d (.lst xs)) e1) = QI (.ok xs e1) := rfl
theorem Zkp {xs e1} : idMK M QI (.ok (.d (.ro xs)) e1) = QI (.ok xs e1) := rfl
theorem Zkq {l e1} : idMK M QI (.ok (.d (.str l)) e1) = QI (.ok (l.map fun c => .str [c]) e1) := rfl
theorem Zkr {xs e1} : idMK M QI (.ok (.o (.l xs)) e1) = QI (.ok xs e1) := rfl
theorem Zks {x e1} : idMK M QI (.ex x e1) = QI (.ex x e1) := rfl
theorem Zpd {xs} : itemsI (.tup xs) = some xs := rfl
theorem Zpe {l} : itemsI (.str l) = some (l.map fun c => .str [c]) := rfl
end
end L2.S

set_option Elab.async false
set_option linter.all false
set_option maxRecDepth 100000
set_option maxHeartbeats 4000000
namespace L2.S
open PySem PySem.Spec PyProof.Rows
def lcI (vs1 : List Nat) (h1 : D → Env' → Option Env') (c1 : Env' → RT) (f : Env' → R) : List D → List D → Env' → Option (List D × Env') := lcL vs1 h1 c1 f
def lcO (vs vs1 : List Nat) (h : D → Env' → Option Env') (c : Env' → RT) (fi1 : Env' → RI) (h1 : D → Env' → Option Env') (c1 : Env' → RT) (f : Env' → R) : List D → List D → Env' → Option (List D × Env')
  | [], acc, e => some (acc, e)
  | d :: ds, acc, e => match h d e with
    | none => none
    | some e1 => match c e1 with
      | .ok true e2 => (match fi1 e2 with
        | .ok ds1 e3 => if canWipe e3 vs1 = true then (match lcL vs1 h1 c1 f ds1 acc (wipeE e3 vs1) with
          | some (acc', e4) => if canWipe e4 vs = true then lcO vs vs1 h c fi1 h1 c1 f ds acc' (wipeE e4 vs) else none
          | none => none) else none
        | _ => none)
      | .ok false e2 => if canWipe e2 vs = true then lcO vs vs1 h c fi1 h1 c1 f ds acc (wipeE e2 vs) else none
      | _ => none
def cLc2 (fi : Env' → RI) (vs : List Nat) (h : D → Env' → Option Env') (c : Env' → RT) (fi1 : Env' → RI) (vs1 : List Nat) (h1 : D → Env' → Option Env') (c1 : Env' → RT) (f : Env' → R) : Env' → R := fun env => match fi env with
  | .ok ds e => if canWipe e vs = true then (match lcO vs vs1 h c fi1 h1 c1 f ds [] (wipeE e vs) with | some (acc, e') => .ok (.o (.l acc)) (backE e e' vs) | none => .no) else .no
  | .ex x e => .ex x e
  | .no => .no
section
variable {X : Cx} {T : Tb} {W : WX}
abbrev gRd (T : Tb) (js : List Nat) (h : D → Env' → Option Env') : TG := fun v σ H Q => ∃ G B Z env d e, EOk T G B Z H σ env ∧ Rep T Z v d ∧ h d env = some e ∧ ∀ σ', (∀ j, j ∉ js → σ'[j]? = σ[j]?) → σ'.length = σ.length → EOk T G B Z H σ' e → Q σ' H
end
section
variable {e : Env'} {Q : R → Prop} {fi fi1 : Env' → RI} {vs vs1 : List Nat} {h h1 : D → Env' → Option Env'} {c c1 : Env' → RT} {f : Env' → R}
def lcK2 (vs : List Nat) (h : D → Env' → Option Env') (c : Env' → RT) (fi1 : Env' → RI) (vs1 : List Nat) (h1 : D → Env' → Option Env') (c1 : Env' → RT) (f : Env' → R) (ds : List D) (e : Env') (Q : R → Prop) (_ : Pin (vs, h, c, fi1, vs1, h1, c1, f, ds, e, Q) := ⟨⟩) : Prop :=
  if canWipe e vs = true then (match lcO vs vs1 h c fi1 h1 c1 f ds [] (wipeE e vs) with | some (acc, e') => Q (.ok (.o (.l acc)) (backE e e' vs)) | none => Q .no) else Q .no
theorem Zkt : wp (cLc2 fi vs h c fi1 vs1 h1 c1 f) e Q = wp fi e (iK Q fun ds e1 => lcK2 vs h c fi1 vs1 h1 c1 f ds e1 Q) := by
  unfold wp cLc2 lcK2 iK
  cases fi e with
  | ok ds e1 =>
    dsimp only
    by_cases hc : canWipe e1 vs = true
    · rw [if_pos hc, if_pos hc]
      cases lcO vs vs1 h c fi1 h1 c1 f ds [] (wipeE e1 vs) <;> rfl
    · rw [if_neg hc, if_neg hc]
  | _ => rfl
def c2K (k : Env' → Prop) : RT → Prop
  | .ok true e => k e
  | _ => False
theorem Zku {k : Env' → Prop} {e} : c2K k (.ok true e) = k e := rfl
def i2K (k : List D → Env' → Prop) : RI → Prop
  | .ok ds e => k ds e
  | _ => False
theorem Zkv {k : List D → Env' → Prop} {ds e} : i2K k (.ok ds e) = k ds e := rfl
def lcIt2 {β : Type} (vs : List Nat) (h : D → Env' → Option Env') (c : Env' → RT) (fi1 : Env' → RI) (vs1 : List Nat) (h1 : D → Env' → Option Env') (c1 : Env' → RT) (f : Env' → R) (d : D) (w : Env') (l1 : List β) (g1 : β → D) (F : β → Option D) : Prop :=
  gK h d w (fun e1 => wp c e1 (c2K fun e2 => wp fi1 e2 (i2K fun ds1 e3 => ds1 = l1.map g1 ∧ canWipe e3 vs1 = true ∧ canWipe (wipeE e3 vs1) vs = true ∧ wipeE (wipeE e3 vs1) vs = w ∧ ∀ y ∈ l1, lcItem vs1 h1 c1 f (g1 y) (wipeE e3 vs1) (fun z => z = F y)))) False
end
end L2.S

set_option Elab.async false
set_option linter.all false
set_option maxRecDepth 100000
set_option maxHeartbeats 4000000
namespace L2.S
open PySem PySem.Spec PyProof.Rows
section
variable {X : Cx} {T : Tb} {W : WX} {e : Expr} {es : List Expr} {fa : Env' → RA} {pos p : Pos}
structure OwnCall (X : Cx) (T : Tb) (c : Nat) (φ : Fn) : Prop where
  ex : ∃ k fx, FnC X.prog X.w X.K X.mg X.base T k φ [] fx ∧ Room k X.A ∧ PySem.W.findIn X.K (.ref (T.cl c)) "__call__" = some (some (.ref fx)) ∧ PySem.W.isFn X.K (.ref fx) = true ∧ PySem.W.fnIn X.K fx = true
def OwnCalls (X : Cx) (T : Tb) (M : List (Nat × Fn)) : Prop := ∀ c φ, M.lookup c = some φ → OwnCall X T c φ
theorem ownCalls_0 : OwnCalls X T [] := fun c φ h => by simp at h
structure FnCall (X : Cx) (T : Tb) (j : Nat) (φ : Fn) (dds : List D) : Prop where
  ex : ∃ k, FnC X.prog X.w X.K X.mg X.base T k φ dds (T.fn j) ∧ Room k X.A
def FnCalls (X : Cx) (T : Tb) (M : List (Nat × Fn × List D)) : Prop := ∀ j φ dds, M.lookup j = some (φ, dds) → FnCall X T j φ dds
theorem fnCalls_0 : FnCalls X T [] := fun c φ dds h => by simp at h
theorem fnCalls_c {M : List (Nat × Fn × List D)} {c : Nat} {φ : Fn} {dds : List D} (h : FnCall X T c φ dds) (r : FnCalls X T M) : FnCalls X T ((c, φ, dds) :: M) := fun c' φ' dds' q => by
  rw [List.lookup_cons] at q
  cases z : c' == c with
  | true =>
    rw [z] at q; cases q
    have := eq_of_beq z
    subst this
    exact h
  | false => rw [z] at q; exact r c' φ' dds' q
def cCallL (i : Nat) (MO : List (Nat × Fn)) (MF : List (Nat × Fn × List D)) (fa : Env' → RA) : Env' → R := fun env => match env[i]? with
  | some (.val (.obj c xs)) => (match MO.lookup c with | some φ => (fa env).bind fun as e => callR φ [] (.d (.obj c xs) :: as) e | none => .no)
  | some (.val (.fn j)) => (match MF.lookup j with | some (φ, dds) => (fa env).bind fun as e => callR φ dds as e | none => .no)
  | _ => .no
theorem se_callL (i : Nat) {x : Str} {MO : List (Nat × Fn)} {MF : List (Nat × Fn × List D)} (hT : X.K = T.K) (tk : Takes X W) (hO : OwnCalls X T MO) (hF : FnCalls X T MF) (ha : SA X T W (e :: es) fa) (hN : X.N[i]? = some x := by rfl)
    (hv : Vis X.env.scope x := by first | exact Or.inl rfl | exact Or.inr (Or.inl rfl) | exact Or.inr (Or.inr rfl)) (hdb : (x == ("__debug__" : Str)) = false := by decide) (hcd : (x == ("__classdict__" : Str)) = false := by decide)
    (he : starEach (e :: es) X.env = (false, eval e X.env) :: starEach es X.env := by rfl) (hpl : (backTo pos (starEach es X.env)).any (·.1) = false := by rfl) : SE X T W (.Call (.Name x p) (e :: es) [] pos) (cCallL i MO MF fa) := by
  refine ⟨fun pins s σ H Q I ⟨G, B, Z, env, E, q⟩ => ?_⟩
  unfold cCallL at q
  cases hd : env[i]? with
  | none => rw [hd] at q; exact q.elim
  | some sv =>
    rw [hd] at q
    cases sv with
    | un => exact q.elim
    | own b o => exact q.elim
    | val d =>
      obtain ⟨v0, hs0, r0⟩ := E.val i d hd
      refine wpAny_Call_Name_kw (thn ((pe_var (pos := p) hN hv hdb hcd).run pins s σ H (fun v H1 => v = v0 ∧ H1 = H) I ⟨v0, hs0, rfl, rfl⟩) fun u s1 ⟨v, H1, I1, ru, q1, hH⟩ => ?_)
      subst q1
      rw [hH] at I1
      cases d with
      | obj c xs =>
        dsimp only at q
        cases hl : MO.lookup c with
        | none => rw [hl] at q; exact q.elim
        | some φ =>
          rw [hl] at q
          dsimp only at q
          have key : tXA T W fa σ H fun vs H1 => ∃ B' Z' env' as, Same Z Z' ∧ EOk T G B' Z' H1 σ env' ∧ AVOk T Z' σ vs as ∧ PR T W G B' Z' σ Q (callR φ [] (.d (.obj c xs) :: as) env') :=
            useAR E q fun vs H1 Z1 e as s E1 r q1 => ⟨B, Z1, e, as, s, E1, r, q1⟩
          obtain ⟨a, dx, vs1, rfl, z1⟩ := rep_obj r0
          obtain rfl : u = Value.ref a := ru
          refine StX.callO_with (thn (ha.run pos pins s1 σ H _ I1 key) fun us s2 ⟨vs, H2, I2, r2, B', Z', env', as, sz, E2, av, q2⟩ => ?_) he hpl
          have z2 := E2.sub _ _ (sz _ _ z1)
          obtain ⟨mA, J, _⟩ := ins_get I2.hok z2
          obtain ⟨od, J, _⟩ := J.look
          refine ⟨⟨_, _, _, J, rfl⟩, ?_⟩
          obtain ⟨k, fx, F, hr, at_, fn, fi⟩ := (hO c φ hl).ex
          obtain ⟨fd, ps, dvs, ds, F1, hb, hd', dfl⟩ := F.ex
          have av' : AVOk T Z' σ (V.ref a :: vs) (.d (.obj c xs) :: as) := ⟨r0.mono sz, av⟩
          have hsp : sp T φ ((V.ref a :: vs) ++ dvs) H2 Q (fun cls d H' => W cls d σ H') := call_sp dfl E2 av' q2
          have r3 : Vals ((V.ref a :: vs) ++ dvs) ((Value.ref a :: us) ++ ds) := (show Vals (V.ref a :: vs) (Value.ref a :: us) from .cons rfl r2).append hd'
          have hlen : ((Value.ref a :: us) ++ ds).length = ps.length := by rw [← r3.length]; exact F1.len _ _ _ _ hsp
          refine wpAny_call (PySem.W.kco_code I2.kIn J rfl at_ fn fi ?_)
          refine codeAny_mono (F1.run X.A X.stack s2 H2 ⟨Value.ref a :: us, []⟩ ((Value.ref a :: us) ++ ds) ((V.ref a :: vs) ++ dvs) Q _ hr I2.env0 (hb s2 (Value.ref a :: us) I2.kIn hlen) r3 hsp) fun r s' hq => ?_
          cases r with
          | error e => exact passAt tk σ pins H2 s2 e s' I2 hq
          | ok fl =>
            cases fl with
            | ret u' => exact I2.after hq
            | next => exact False.elim hq
            | brk => exact False.elim hq
            | cont => exact False.elim hq
      | fn j =>
        cases r0
        cases ru
        dsimp only at q
        cases hl : MF.lookup j with
        | none => rw [hl] at q; exact q.elim
        | some w =>
          rw [hl] at q
          obtain ⟨φ, dds⟩ := w
          dsimp only at q
          have key : tXA T W fa σ H fun vs H1 => ∃ B' Z' env' as, Same Z Z' ∧ EOk T G B' Z' H1 σ env' ∧ AVOk T Z' σ vs as ∧ PR T W G B' Z' σ Q (callR φ dds as env') :=
            useAR E q fun vs H1 Z1 e as s E1 r q1 => ⟨B, Z1, e, as, s, E1, r, q1⟩
          obtain ⟨k, F, hr⟩ := (hF j φ dds hl).ex
          obtain ⟨fd, ps, dvs, ds, F1, hb, hd', dfl⟩ := F.ex
          refine PySem.W.callWith_K (h₀ := X.base) I.ok.mod.kin F.kp (thn (ha.run pos pins s1 σ H _ I1 key) fun us s2 ⟨vs, H2, I2, r2, B', Z', env', as, sz, E2, av, q2⟩ => ⟨I2.kIn, ?_⟩) he hpl
          exact run_fnG F1 hr hb hd' (passAt tk σ) I2 r2 (call_sp dfl E2 av q2)
      | _ => exact q.elim
end
section
variable {e : Env'} {Q : R → Prop} {fa : Env' → RA} {i : Nat} {MO : List (Nat × Fn)} {MF : List (Nat × Fn × List D)}
def clK (e : Env') (Q : R → Prop) (MO : List (Nat × Fn)) (MF : List (Nat × Fn × List D)) (fa : Env' → RA) : SV → Prop
  | .val (.obj c xs) => oK (MO.lookup c) (Q .no) fun φ => wp fa e (aK Q fun as e1 => svsK (svs e1 (.d (.obj c xs) :: as)) φ [] (.d (.obj c xs) :: as) e1 Q)
  | .val (.fn j) => oK (MF.lookup j) (Q .no) fun w => wp fa e (aK Q fun as e1 => svsK (svs e1 as) w.1 w.2 as e1 Q)
  | _ => Q .no
theorem Zkx {c xs} : clK e Q MO MF fa (.val (.obj c xs)) = oK (MO.lookup c) (Q .no) fun φ => wp fa e (aK Q fun as e1 => svsK (svs e1 (.d (.obj c xs) :: as)) φ [] (.d (.obj c xs) :: as) e1 Q) := rfl
theorem Zky {j} : clK e Q MO MF fa (.val (.fn j)) = oK (MF.lookup j) (Q .no) fun w => wp fa e (aK Q fun as e1 => svsK (svs e1 as) w.1 w.2 as e1 Q) := rfl
theorem Zkw : wp (cCallL i MO MF fa) e Q = getN e i (clK e Q MO MF fa) (Q .no) := by
  unfold wp cCallL getN
  cases he : e[i]? with
  | none => rfl
  | some x => cases x with
    | val d => cases d with
      | obj c xs =>
        dsimp only
        rw [Zkx]
        unfold oK
        cases MO.lookup c with
        | none => rfl
        | some φ =>
          dsimp only
          refine (RA_bind_wp (Q := Q)).trans ?_
          unfold wp
          congr 1
          funext as e1
          exact callR_wp
      | fn j =>
        dsimp only
        rw [Zky]
        unfold oK
        cases MF.lookup j with
        | none => rfl
        | some w =>
          dsimp only
          refine (RA_bind_wp (Q := Q)).trans ?_
          unfold wp
          congr 1
          funext as e1
          exact callR_wp
      | _ => rfl
    | _ => rfl
end
section
variable {X : Cx} {T : Tb}
end
section
variable {e : Env'} {Q : RS → Prop} {f : Env' → R} {c : Nat} {okD : D → Bool}
theorem Zkz : wp (sRaiseV c okD f) e Q = wp f e (bK Q fun d e1 => iteK (okD d) (Q (.ex ⟨c, [d]⟩ e1)) (Q .no)) := by
  unfold wp sRaiseV
  refine (R_bindS_wp (Q := Q)).trans ?_
  congr 1
  funext d e1
  unfold iteK
  cases okD d <;> rfl
end
def pNone : D → D → Option RV := fun _ _ => none
end L2.S

set_option Elab.async false
set_option linter.all false
set_option maxRecDepth 100000
set_option maxHeartbeats 4000000
namespace L2.S
open PySem PySem.Spec PyProof.Rows
section
variable {X : Cx} {T : Tb}
def bLs : List D → Option RV
  | [.str l] => if l.length ≤ 16777216 then some (.o (.l (l.map fun c => .str [c]))) else none
  | _ => none
def bLst2 : List D → Option RV := orB bLst bLs
theorem Zmj {xs} : bLst2 [.tup xs] = some (.o (.l xs)) := rfl
theorem Zmk {xs} : bLst2 [.lst xs] = some (.o (.l xs)) := rfl
theorem Zml {xs} : bLst2 [.ro xs] = some (.o (.l xs)) := rfl
end
end L2.S

set_option Elab.async false
set_option linter.all false
set_option maxRecDepth 100000
set_option maxHeartbeats 4000000
namespace L2.S
open PySem PySem.Spec PyProof.Rows
def rRep01 (K : PySem.W.Frag) : R2 := fun x y H Q => ∃ l k xs, x = .ref l ∧ y = .int k ∧ SqT K H l xs ∧ xs ≠ [] ∧ ((k = 1 ∧ Q (.ref l) H) ∨ (k = 0 ∧ ∀ p, H p = none → Q (.ref p) (upd H p (.tup []))))
section
variable {X : Cx}
end
section
variable {X : Cx} {T : Tb}
def pMulT : D → D → Option RV := fun x y => match x, y with
  | .tup a, .int k => if decide (a ≠ []) && (decide (0 ≤ k) && (decide (k ≤ 1000) && decide (a.length ≤ 1000))) then some (.d (.tup (List.replicate k.toNat a).flatten)) else none
  | _, _ => none
def pMulX := orP pMul pMulT
end
end L2.S

set_option Elab.async false
set_option linter.all false
set_option maxRecDepth 100000
set_option maxHeartbeats 4000000
namespace L2.S
open PySem PySem.Spec PyProof.Rows
section
variable {prog : Program} {w : World} {A : Around} {E : Value → Shared → Prop} {s : Shared}
open HT
theorem sliceApplied_rev {sl : Addr} {tk : Tok} {n : Nat} {Q : Int × Int × Nat → Shared → Prop} (hs : s.heap.IsSliceOf sl .none .none (.int (-1) tk))
    (h : Q ((n : Int) - 1, -1, n) s) : wpAny (model prog w) A (Builtin.Slice.sliceApplied (.ref sl) (pure (n : Int))) Q E s := by
  obtain ⟨os, hos, hcs, hds⟩ := id hs
  unfold Builtin.Slice.sliceApplied Builtin.Slice.sliceFields
  refine wpAny_bind (wpAny_bind (wpAny_field hos hds (x := .none) rfl (wpAny_bind (wpAny_field hos hds (x := .none) rfl (wpAny_bind (wpAny_field hos hds (x := .int (-1) tk) rfl (wpAny_pure ?_)))))))
  refine wpAny_bind (slicePart_ (.int (-1) tk) ?_)
  show wpAny _ _ (if ((-1 : Int) == 0) = true then _ else _) _ _ s
  rw [if_neg (by decide)]
  refine wpAny_bind (slicePart_none (wpAny_bind (slicePart_none (wpAny_bind (wpAny_pure ?_)))))
  show wpAny _ _ (pure ((n : Int) - 1, (-1 : Int), Builtin.Slice.slicePlaces ((n : Int) - 1) (-1) (-1))) _ _ s
  have e : Builtin.Slice.slicePlaces ((n : Int) - 1) (-1) (-1) = n := by
    unfold Builtin.Slice.slicePlaces
    rw [if_neg (by decide)]
    rw [show -(-1 : Int) = 1 from rfl, Int.ediv_one]
    split <;> omega
  rw [e]
  exact wpAny_pure h
theorem fm_congr {α β : Type} {f g : α → Option β} : ∀ {l : List α}, (∀ m ∈ l, f m = g m) → l.filterMap f = l.filterMap g
  | [], _ => rfl
  | a :: l, h => by
    have ih := fm_congr (l := l) fun m hm => h m (List.mem_cons_of_mem _ hm)
    rw [List.filterMap_cons, List.filterMap_cons, h a (List.mem_cons_self ..), ih]
theorem pick_rev (xs : Array Value) : ((List.range xs.size).filterMap fun (m : Nat) => xs[(((xs.size : Nat) : Int) - 1 + (m : Int) * (-1)).toNat]?).toArray = xs.toList.reverse.toArray := by
  congr 1
  have e : (List.range xs.size).filterMap (fun (m : Nat) => xs[(((xs.size : Nat) : Int) - 1 + (m : Int) * (-1)).toNat]?) = (List.range xs.size).filterMap fun m => some (xs.toList.reverse.getD m .none) := by
    refine fm_congr fun m hm => ?_
    have hm := List.mem_range.mp hm
    have h1 : (((xs.size : Nat) : Int) - 1 + (m : Int) * (-1)).toNat = xs.size - 1 - m := by omega
    have h2 : xs.size - 1 - m < xs.size := by omega
    rw [h1, List.getD_eq_getElem?_getD, List.getElem?_reverse (by simpa using hm), Array.getElem?_toList, Array.length_toList, Array.getElem?_eq_getElem h2]
    rfl
  rw [e, List.filterMap_eq_map']
  refine List.ext_getElem? fun i => ?_
  rw [List.getElem?_map]
  by_cases h : i < xs.size
  · rw [List.getElem?_range h, List.getElem?_eq_getElem (by simpa using h)]
    simp [List.getD_eq_getElem?_getD, h]
  · rw [List.getElem?_eq_none (by simp; omega), List.getElem?_eq_none (by simp; omega)]
    rfl
theorem getItem_tuple_rev {t sl : Addr} {items : Array Value} {tk : Tok} {Q : Value → Shared → Prop} (ht : IsTup s.heap t items) (hs : s.heap.IsSliceOf sl .none .none (.int (-1) tk))
    (h : Q (.ref s.heap.objs.size) { s with heap := s.heap.push { cls := .type "tuple", data := .seq items.toList.reverse.toArray } })
    (hsz : items.size ≤ sizeLine) : wpAny (model prog w) A (getItem (.ref t) (.ref sl)) Q E s := by
  have htake : sizeOk (.seq items.toList.reverse.toArray) := by
    show items.toList.reverse.toArray.size ≤ sizeLine
    rw [List.size_toArray, List.length_reverse, Array.length_toList]
    exact hsz
  obtain ⟨os, hos, hcs, hds⟩ := id hs
  have hTs : s.TypeIs (.ref sl) "slice" := ⟨os, hos, hcs⟩
  unfold getItem
  try with_reducible refine wpAny_holding ?_
  first | refine wpAny_bind (wpAny_pure ?_) | skip
  refine wpAny_bind (wpAny_sequenceKey ht.typeIs (by decide) ?_)
  refine wpAny_bind (wpAny_callSpecial?_slot (name := Str.ofString "__getitem__") ht.typeIs PyProof.Rows.slot_tuple_getitem
    (wpAny_call_entry PyProof.Rows.slot_tuple_getitem ht.typeIs entry_tuple_getitem ?_ (args_tuple_getitem _ _)))
  show wpAny _ _ (Builtin.Tuple.tupleItemsOf (.ref t) >>= _) _ _ s
  refine wpAny_bind (tupleItemsOf_ ht ?_)
  refine wpAny_bind (wpAny_typeOf hTs ?_)
  rw [if_pos (by decide)]
  refine wpAny_bind (sliceApplied_rev hs ?_)
  have hno : ¬ ((((items.size : Nat) : Int) - 1 == 0 && (-1 : Int) == 1 && items.size == items.size) = true) := by
    intro q
    rw [Bool.and_eq_true, Bool.and_eq_true] at q
    exact absurd q.1.2 (by decide)
  show wpAny _ _ (if (((items.size : Nat) : Int) - 1 == 0 && (-1 : Int) == 1 && items.size == items.size) = true then _ else _) _ _ s
  rw [if_neg hno, pick_rev]
  first
    | exact wpAny_bind (m := Builtin.Tuple.tupleExact _) (wpAny_newObj_type (wpAny_pure ⟨_, rfl, wpAny_pure h⟩) htake)
    | exact wpAny_bind (m := Builtin.Tuple.tupleExact _) (wpAny_newObj_type (wpAny_bind (wpAny_pure (wpAny_pure ⟨_, rfl, wpAny_pure h⟩))) htake)
    | exact wpAny_bind (wpAny_bind (m := Builtin.Tuple.tupleExact _) (wpAny_newObj_type (wpAny_pure (wpAny_pure ⟨_, rfl, wpAny_pure h⟩)) htake))
    | exact wpAny_bind (wpAny_bind (m := Builtin.Tuple.tupleExact _) (wpAny_newObj_type (wpAny_pure ⟨_, rfl, wpAny_pure h⟩) htake))
end
section
variable {X : Cx} {T : Tb} {W : WX} {a : Expr} {f : Env' → R} {pos : Pos}
def tRevS (te : TE) : TE := fun σ H Q => te σ H fun x H1 => ∃ l : List Nat, x = .str ⟨l.toArray⟩ ∧ l.length ≤ sizeLine ∧ Q (.str ⟨l.reverse.toArray⟩) H1
theorem sliceBy_rev (l : List Nat) (u : Tok) : Txt.sliceBy ⟨l.toArray⟩ none none (-1, u) = ⟨l.reverse.toArray⟩ := by
  have h := step_rev_list ⟨l.toArray⟩ u
  have e : (List.range (⟨l.toArray⟩ : Str).length).map (fun k => (⟨l.toArray⟩ : Str).cps.getD ((⟨l.toArray⟩ : Str).length - 1 - k) 0) = l.reverse := by
    have hl : (⟨l.toArray⟩ : Str).length = l.length := by simp [Str.length]
    rw [hl]
    refine List.ext_getElem (by simp) fun i h1 h2 => ?_
    rw [List.getElem_map, List.getElem_range, List.getElem_reverse]
    have hi : i < l.length := by simpa using h1
    have h3 : l.length - 1 - i < l.length := by omega
    simp [Array.getD, h3]
  rw [e] at h
  generalize Txt.sliceBy ⟨l.toArray⟩ none none (-1, u) = z at h
  obtain ⟨z⟩ := z
  have : z = l.reverse.toArray := by rw [← h]
  rw [this]
def tRevA (K : PySem.W.Frag) (te : TE) : TE := fun σ H Q => te σ H fun x H1 => (∃ a xs, x = .ref a ∧ SqL K H1 a xs ∧ ∀ p, H1 p = none → Q (.ref p) (upd H1 p (.lst xs.reverse))) ∨ (∃ a xs, x = .ref a ∧ SqT K H1 a xs ∧ ∀ p, H1 p = none → Q (.ref p) (upd H1 p (.tup xs.reverse))) ∨ ∃ l : List Nat, x = .str ⟨l.toArray⟩ ∧ l.length ≤ sizeLine ∧ Q (.str ⟨l.reverse.toArray⟩) H1
theorem pe_revA {e : Expr} {te : TE} {k : Nat} {p1 p2 p3 pos : Pos} (he : PE X e te) : PE X (.Subscript e (.Slice none none (some (.UnaryOp .USub (.Constant (.int 1) k p1) p2)) p3) pos) (tRevA X.K te) := by
  refine ⟨fun pins s σ H Q I h => ?_⟩
  refine Subscript_ (thn (he.run pins s σ H _ I h) fun v s1 ⟨x, H1, I1, r1, q1⟩ => ?_)
  have hst : PO X (some (.UnaryOp .USub (.Constant (.int 1) k p1) p2)) (tPart (tUn (rU fun i => .int (-i)) (tC (.int 1)))) := po_some (pe_un un_neg pe_int)
  refine wpAny_Slice (thn (po_none.run pins s1 σ H1 (fun o H2 => o = none ∧ H2 = H1) I1 ⟨rfl, rfl⟩) fun vl s2 ⟨l', H2, I2, pl, el, e2⟩ => ?_)
  subst el e2
  refine thn (po_none.run pins s2 σ H2 (fun o H3 => o = none ∧ H3 = H2) I2 ⟨rfl, rfl⟩) fun vu s3 ⟨u, H3, I3, pu, eu, e3⟩ => ?_
  subst eu e3
  refine thn (hst.run pins s3 σ H3 (fun o H4 => o = some (-1) ∧ H4 = H3) I3 ⟨1, rfl, -1, rfl, rfl, rfl⟩) fun vs s4 ⟨o, H4, I4, ps, eo, e4⟩ => ?_
  subst eo e4
  have I5 : Inv X pins σ H4 { s4 with heap := s4.heap.push { cls := .type "slice", data := .fields #[vl, vu, vs] } } := I4.kept (t' := s4.toks) fun b ob q => Heap.get?_push_of_some _ q
  rcases q1 with ⟨a, xs, ex, hx, q⟩ | ⟨a, xs, ex, hx, q⟩ | ⟨l, ex, hz, q⟩
  · subst ex
    cases r1
    obtain ⟨its, r, ht, hz⟩ := I5.list hx
    have hlen := r.length
    show wpAny (model X.prog X.w) X.A (subscriptTail e (.Slice none none (some (.UnaryOp .USub (.Constant (.int 1) k p1) p2)) p3) (.ref a) (.ref s4.heap.objs.size)) (EP X pins σ Q) X.xe { s4 with heap := s4.heap.push { cls := .type "slice", data := .fields #[vl, vu, vs] } }
    refine tail_any (ops := [.ref a, .ref s4.heap.objs.size]) ht.isList.typeIs (PySem.slot_list_getitem.lookup) ?_ (by with_unfolding_all rfl)
    refine wpAny_getItem_list_slice ht.isList (Heap.IsSliceOf.new _ vl vu vs) pl pu ps (by decide) ?_ (by rw [List.size_toArray]; omega)
    rw [PySem.W.krv_pick]
    refine ⟨.ref _, _, I5.laid (t' := s4.toks) (o := .lst xs.reverse) (fun b ob q => Heap.get?_push_of_some _ q) (Nat.le_refl _) ?_, rfl, q _ (I5.hok.fresh (Nat.le_refl _))⟩
    exact ⟨by rw [List.length_reverse]; exact hz, _, 0, r.reverse, Heap.get?_push_size _ rfl⟩
  · subst ex
    cases r1
    obtain ⟨its, r, ht, hz⟩ := I5.tuple hx
    have hlen := r.length
    cases pl
    cases pu
    cases ps with
    | int i tk =>
      show wpAny (model X.prog X.w) X.A (subscriptTail e (.Slice none none (some (.UnaryOp .USub (.Constant (.int 1) k p1) p2)) p3) (.ref a) (.ref s4.heap.objs.size)) (EP X pins σ Q) X.xe { s4 with heap := s4.heap.push { cls := .type "slice", data := .fields #[.none, .none, .int (-1) tk] } }
      refine tail_any (ops := [.ref a, .ref s4.heap.objs.size]) ht.typeIs (PyProof.Rows.slot_tuple_getitem.lookup) ?_ (by with_unfolding_all rfl)
      refine getItem_tuple_rev ht (Heap.IsSliceOf.new _ .none .none (.int (-1) tk)) ?_ (by rw [List.size_toArray, ← hlen]; exact hz)
      refine ⟨.ref _, _, I5.laid (t' := s4.toks) (o := .tup xs.reverse) (fun b ob q => Heap.get?_push_of_some _ q) (Nat.le_refl _) ?_, rfl, q _ (I5.hok.fresh (Nat.le_refl _))⟩
      exact ⟨by rw [List.length_reverse]; exact hz, _, r.reverse, IsTup.new _ _⟩
  · subst ex
    obtain ⟨tx, rfl⟩ := r1
    cases pl
    cases pu
    cases ps with
    | int i tk =>
      show wpAny (model X.prog X.w) X.A (subscriptTail e (.Slice none none (some (.UnaryOp .USub (.Constant (.int 1) k p1) p2)) p3) (.str ⟨l.toArray⟩ tx) (.ref s4.heap.objs.size)) (EP X pins σ Q) X.xe { s4 with heap := s4.heap.push { cls := .type "slice", data := .fields #[.none, .none, .int (-1) tk] } }
      have h0 : ((Option.map (fun x : Int × Tok => x.1) (some (-1, tk))).getD 1 == 0) = false := rfl
      have h1 : ((-1 : Int), tk).1 ≠ 0 := by show (-1 : Int) ≠ 0; decide
      refine tail_any (ops := [.ref s4.heap.objs.size, .str ⟨l.toArray⟩ tx]) (typeIs_str _ _ _) (PySem.F.slot_str_getitem.lookup) ?_ (by with_unfolding_all rfl)
      refine wpAny_getItem_str_slice (l := none) (u := none) (st := some (-1, tk)) ⟨_, Heap.get?_push_size _ rfl, rfl, rfl⟩ h0
        (PySem.post_val_or_str ⟨Nat.le_trans (PySem.Txt.sliceBy_le ⟨l.toArray⟩ none none (-1, tk) h1) (by simpa [Str.length] using hz), fun t' c => ?_⟩)
      have e := sliceBy_rev l tk
      unfold Txt.sliceBy at e
      rw [e]
      exact ⟨.str ⟨l.reverse.toArray⟩, H4, I5.tok _, ⟨_, rfl⟩, q⟩
def cRv2 (f : Env' → R) : Env' → R := fun env => (f env).bind fun d e => match d with | .lst xs => .ok (.o (.l xs.reverse)) e | .ro xs => .ok (.o (.l xs.reverse)) e | .tup xs => .ok (.d (.tup xs.reverse)) e | .str l => if l.length ≤ 16777216 then .ok (.d (.str l.reverse)) e else .no | _ => .no
theorem se_rv2 {k : Nat} {p1 p2 p3 : Pos} (hT : X.K = T.K) (ha : SE X T W a f) : SE X T W (.Subscript a (.Slice none none (some (.UnaryOp .USub (.Constant (.int 1) k p1) p2)) p3) pos) (cRv2 f) := by
  refine PE.weak (pe_revA ha) fun σ H Q ⟨G, B, Z, env, E, q⟩ => ?_
  refine useR E q fun x H1 Z1 e1 d s1 E1 r1 q1 => ?_
  cases r1 with
  | lst hq rs =>
    refine .inl ⟨_, _, rfl, SqL.of (E1.sub _ _ hq), fun p hp => ?_⟩
    obtain ⟨E', r'⟩ := new_list E1 hp rs.reverse
    exact q1 _ _ _ (Same.refl _) E' r'
  | ro hq rs =>
    refine .inl ⟨_, _, rfl, by rw [hT]; exact E1.sub.seq hq, fun p hp => ?_⟩
    obtain ⟨E', r'⟩ := new_list E1 hp rs.reverse
    exact q1 _ _ _ (Same.refl _) E' r'
  | tup hq rs =>
    refine .inr (.inl ⟨_, _, rfl, by rw [hT]; exact sqt_mono E1.sub hq, fun p hp => ?_⟩)
    obtain ⟨s', E', r'⟩ := new_tup E1 hp rs.reverse
    exact q1 _ _ _ s' E' r'
  | str l =>
    dsimp only at q1
    split at q1
    · rename_i hl
      exact .inr (.inr ⟨l, rfl, by rw [SZ_eq]; exact hl, q1 _ _ _ (Same.refl _) E1 (.str _)⟩)
    · exact q1.elim
  | _ => exact q1.elim
def rv3K (Q : R → Prop) (e : Env') : D → Prop
  | .lst xs => Q (.ok (.o (.l xs.reverse)) e)
  | .ro xs => Q (.ok (.o (.l xs.reverse)) e)
  | .tup xs => Q (.ok (.d (.tup xs.reverse)) e)
  | .str l => Q (if l.length ≤ 16777216 then .ok (.d (.str l.reverse)) e else .no)
  | _ => Q .no
theorem Zjl {e : Env'} {Q : R → Prop} : wp (cRv2 f) e Q = wp f e (bK Q fun d e1 => rv3K Q e1 d) := by
  unfold wp cRv2
  refine (R_bind_wp (Q := Q)).trans ?_
  congr 1
  funext d e1
  cases d <;> rfl
theorem Zjm {Q : R → Prop} {e : Env'} {xs} : rv3K Q e (.lst xs) = Q (.ok (.o (.l xs.reverse)) e) := rfl
theorem Zjo {Q : R → Prop} {e : Env'} {xs} : rv3K Q e (.ro xs) = Q (.ok (.o (.l xs.reverse)) e) := rfl
theorem Zjn {Q : R → Prop} {e : Env'} {xs} : rv3K Q e (.tup xs) = Q (.ok (.d (.tup xs.reverse)) e) := rfl
theorem rv3K_s {Q : R → Prop} {e : Env'} {l} (h : l.length ≤ 16777216) : rv3K Q e (.str l) = Q (.ok (.d (.str l.reverse)) e) := by
  show Q (if _ then _ else _) = _
  rw [if_pos h]
end
end L2.S

set_option Elab.async false
set_option linter.all false
set_option maxRecDepth 100000
set_option maxHeartbeats 4000000
namespace L2.S
open PySem PySem.Spec PyProof.Rows GQ
section
variable {X : Cx} {T : Tb} {W : WX}
def shD : Nat → D → D → Prop
  | 0, x, y => flatD x = true ∧ flatD y = true ∧ noMix x y = true
  | n + 1, x, y => (flatD x = true ∧ flatD y = true ∧ noMix x y = true) ∨ (∃ xs ys, x = .tup xs ∧ y = .tup ys ∧ ∀ (i : Nat) (a b : D), xs[i]? = some a → ys[i]? = some b → shD n a b) ∨
    (∃ c xs ys, x = .obj c xs ∧ y = .obj c ys ∧ ∀ (i : Nat) (a b : D), xs[i]? = some a → ys[i]? = some b → shD n a b)
def okZ (M : List (Nat × Fn)) : Nat → D → D → Prop
  | 0, x, y => flatD x = true ∧ flatD y = true ∧ noMix x y = true
  | n + 1, x, y => (flatD x = true ∧ flatD y = true ∧ noMix x y = true) ∨ (∃ xs ys, x = .tup xs ∧ y = .tup ys ∧ ∀ (i : Nat) (a b : D), xs[i]? = some a → ys[i]? = some b → okZ M n a b) ∨
    (∃ c xs ys φ, x = .obj c xs ∧ y = .obj c ys ∧ M.lookup c = some φ ∧ φ [.val x, .val y] = .ok (.d (.bl (eqD x y))) [] ∧ ∃ k, shD k x y)
variable {pins : List (Addr × Obj)} {σ : St} {H Z : Hp} {s : Shared} {G : Gd} {B : List (Nat × Addr)} {env : Env'} {M : List (Nat × Fn)}
open Classical in
noncomputable def pEqZ (neg : Bool) (M : List (Nat × Fn)) (p0 : D → D → Env' → R) : D → D → Env' → R := fun x y e => if okZ M 4 x y ∧ kd x = 4 ∧ kd y = 4 then .ok (.d (.bl (if neg then !eqD x y else eqD x y))) e else p0 x y e
end
section
variable {neg : Bool} {M : List (Nat × Fn)} {p0 : D → D → Env' → R} {e : Env'} {Q : R → Prop} {x y : D} {xs ys : List D}
theorem rK_eqZ_n (h : kd x ≠ 4) : rK (pEqZ neg M p0 x y e) Q = rK (p0 x y e) Q := by
  unfold rK pEqZ
  rw [if_neg fun z => h z.2.1]
theorem Zep {c : Nat} : rK (pEqZ neg M p0 (.obj c xs) y e) Q = rK (p0 (.obj c xs) y e) Q := rK_eqZ_n (by simp [kd]; omega)
theorem Zer {i : Int} : rK (pEqZ neg M p0 (.int i) y e) Q = rK (p0 (.int i) y e) Q := rK_eqZ_n (by simp [kd])
theorem Zet {b : Bool} : rK (pEqZ neg M p0 (.bl b) y e) Q = rK (p0 (.bl b) y e) Q := rK_eqZ_n (by simp [kd])
theorem Zev {l : List Nat} : rK (pEqZ neg M p0 (.str l) y e) Q = rK (p0 (.str l) y e) Q := rK_eqZ_n (by simp [kd])
theorem Zex : rK (pEqZ neg M p0 .non y e) Q = rK (p0 .non y e) Q := rK_eqZ_n (by simp [kd])
theorem Zez : rK (pEqZ neg M p0 (.lst xs) y e) Q = rK (p0 (.lst xs) y e) Q := rK_eqZ_n (by simp [kd])
end
end L2.S

set_option Elab.async false
set_option linter.all false
set_option maxRecDepth 100000
set_option maxHeartbeats 4000000
namespace L2.S
open PySem PySem.Spec PyProof.Rows
section
variable {X : Cx} {T : Tb} {W : WX}
structure OwnC (X : Cx) (T : Tb) (c : Nat) (φ : Fn) : Prop where
  op : ∃ k fx, FnC X.prog X.w X.K X.mg X.base T k φ [] fx ∧ Room k X.A ∧ PySem.W.findIn X.K (.ref (T.cl c)) "__contains__" = some (some (.ref fx)) ∧ PySem.W.isFn X.K (.ref fx) = true
def OwnCs (X : Cx) (T : Tb) (M : List (Nat × Fn)) : Prop := ∀ c φ, M.lookup c = some φ → OwnC X T c φ
def pInM (neg : Bool) (M : List (Nat × Fn)) (q : D → D → Option RV) : D → D → Env' → R := fun x y e => match y with
  | .obj c xs => (match M.lookup c with
    | some φ => (callR φ [] [.d (.obj c xs), .d x] e).boolTo neg
    | none => .no)
  | _ => ofOp q x y e
def pNeX : D → D → Option RV := fun x y => match x, y with
  | .lst _, .str _ => some (.d (.bl true))
  | .ro _, .str _ => some (.d (.bl true))
  | .tup _, .str _ => some (.d (.bl true))
  | _, _ => none
end
section
variable {M : List (Nat × Fn)} {e : Env'} {Q : R → Prop} {xs : List D} {c : Nat} {q : D → D → Option RV} {x y : D} {neg : Bool}
theorem Zej : rK (pInM neg M q x (.obj c xs) e) Q = oK (M.lookup c) (Q .no) fun φ => fK (φ [.val (.obj c xs), .val x]) (btK neg Q) [.d (.obj c xs), .d x] e := by
  unfold rK pInM oK
  dsimp only
  cases M.lookup c with
  | none => rfl
  | some φ =>
    refine (callR_wp (Q := btK neg Q)).trans ?_
    exact svsK_s (by rw [nod_d, nod_d, nod_0]; trivial)
theorem Zek : rK (pInM neg M q x (.tup xs) e) Q = oK (q x (.tup xs)) (Q .no) fun r => Q (.ok r e) := Zbh
theorem Zel : rK (pInM neg M q x (.lst xs) e) Q = oK (q x (.lst xs)) (Q .no) fun r => Q (.ok r e) := Zbh
theorem Zem {l : List Nat} : rK (pInM neg M q x (.str l) e) Q = oK (q x (.str l)) (Q .no) fun r => Q (.ok r e) := Zbh
theorem Zmq {ys : List D} {l : List Nat} {p : D → D → Option RV} : orP pNeX p (.tup ys) (.str l) = some (.d (.bl true)) := rfl
theorem Zmr {ys : List D} {l : List Nat} {p : D → D → Option RV} : orP pNeX p (.lst ys) (.str l) = some (.d (.bl true)) := rfl
theorem Zms {i : Int} {p : D → D → Option RV} : orP pNeX p (.int i) y = p (.int i) y := by unfold orP; rfl
theorem Zmt {i : Bool} {p : D → D → Option RV} : orP pNeX p (.bl i) y = p (.bl i) y := by unfold orP; rfl
theorem Zmu {p : D → D → Option RV} : orP pNeX p .non y = p .non y := by unfold orP; rfl
theorem Zmv {i : List Nat} {p : D → D → Option RV} : orP pNeX p (.str i) y = p (.str i) y := by unfold orP; rfl
theorem Zmw {a b : List D} {p : D → D → Option RV} : orP pNeX p (.tup a) (.tup b) = p (.tup a) (.tup b) := by unfold orP; rfl
theorem Zmx {a b : List D} {p : D → D → Option RV} : orP pNeX p (.lst a) (.lst b) = p (.lst a) (.lst b) := by unfold orP; rfl
end
end L2.S

set_option Elab.async false
set_option linter.all false
set_option maxRecDepth 100000
set_option maxHeartbeats 4000000
namespace L2.S
open PySem PySem.Spec PyProof.Rows
def IteS (x : Str) : It :=
  ⟨fun k H => ∃ c, x.cps[k]? = some c,
   fun k H v' H' => ∃ t c, v' = .ref t ∧ H t = none ∧ H' = upd H t (.tup [.int (k : Nat), .str ⟨#[c]⟩]) ∧ x.cps[k]? = some c,
   fun k H => x.cps.size = k⟩
theorem strIter_obj {h : Heap} {it : Addr} {ty : String} {x : Str} {t : Tok} {i : Nat} (q : h.IsStrIter it ty x t i) : ∃ o, h.get? it = some o ∧ ∀ v, o.data ≠ .cell v := by
  obtain ⟨o, ho, _, hd⟩ := q
  exact ⟨o, ho, fun v q => by rw [hd] at q; cases q⟩
theorem turnEs {P : Program} {w : World} {K : PySem.W.Frag} {es : List Expr} {kk : Nat} {tp : Pos} {c j : Addr} {x : Str} {t : Tok} (n2 : c ≠ j) :
    Turn P w K (.Tuple es kk tp) (IteS x) [c, j] c (fun k h => (∃ f, IsEnum h c j ((k : Nat) : Int) f) ∧ h.IsStrIter j (strIterType x) x t k) where
  mem := List.mem_cons_self ..
  obj := fun k h ⟨⟨f, g1⟩, g2⟩ b hm => by
    have two : b = c ∨ b = j := by simpa using hm
    rcases two with rfl | rfl
    · exact ⟨_, g1, fun v e => nomatch e⟩
    · exact strIter_obj g2
  keep := fun k h h' ⟨⟨f, g1⟩, g2⟩ up => ⟨⟨f, up c (by simp) _ g1⟩, (by obtain ⟨o, ho, r⟩ := g2; exact ⟨o, up j (by simp) _ ho, r⟩)⟩
  item := by
    intro X e1 e2 e3 calm k pins s σ H E I free st go
    subst e1 e2 e3
    obtain ⟨⟨f, g1⟩, g2⟩ := st
    obtain ⟨ch, hv⟩ := go
    have hh : X.A.in1.handled = none := I.ok.hd calm
    have lt : k < x.cps.size := (Array.getElem?_eq_some_iff.mp hv).1
    have clt : c < s.heap.objs.size := Heap.lt_size g1
    refine wpAny_pyNext_enum_itemD (Draws.text hh j x t) g1 g2 lt n2 (by simp [n2]) fun x' h1 tk ex z1 d1 new _ up => ?_
    obtain ⟨c', tx, ec, rfl⟩ := ex
    rw [hv] at ec
    cases ec
    refine ⟨_, rfl, wpAny_letOwnedTupleGo_enum (s := { s with heap := h1, toks := tk + 1 }) z1 fun h2 z3 sb => ?_⟩
    have tnew : h2.get? s.heap.objs.size = some { cls := .type "tuple", data := .seq #[.int k tk, .str ⟨#[ch]⟩ tx] } := (sb.2 _ (Nat.ne_of_gt clt)).trans new
    have made : ObjOk X.prog X.w (upd H s.heap.objs.size (.tup [.int (k : Nat), .str ⟨#[ch]⟩])) h2 s.heap.objs.size (.tup [.int (k : Nat), .str ⟨#[ch]⟩]) := ⟨(by show 2 ≤ sizeLine; decide), [.int k tk, .str ⟨#[ch]⟩ tx], .cons ⟨_, rfl⟩ (.cons ⟨_, rfl⟩ .nil), ⟨_, tnew, rfl, _, rfl⟩⟩
    have upz : ∀ b o, b ∉ [c, j] → s.heap.get? b = some o → h2.get? b = some o := fun b o hb q => by
      simp only [List.mem_cons, List.not_mem_nil, or_false, not_or] at hb
      exact (sb.2 b hb.1).trans (up b o hb.1 hb.2 q)
    have J := I.turnedNew (t' := tk + 1) upz free (Nat.le_refl _) made
    refine ⟨.ref s.heap.objs.size, _, J, rfl, ⟨_, ch, rfl, I.hok.fresh (Nat.le_refl _), rfl, hv⟩, ⟨⟨.str ⟨#[ch]⟩ tx, ?_⟩, ?_⟩, fun b hm => ?_⟩
    · have : ((k + 1 : Nat) : Int) = (k : Int) + 1 := by omega
      rw [this]; exact z3
    · obtain ⟨o, ho, r⟩ := d1
      exact ⟨o, (sb.2 _ n2.symm).trans ho, r⟩
    · have lt : b < s.heap.objs.size := by
        have two : b = c ∨ b = j := by simpa using hm
        rcases two with rfl | rfl
        · exact clt
        · obtain ⟨_, q, _⟩ := strIter_obj g2; exact Heap.lt_size q
      rw [upd_ne (Nat.ne_of_lt lt)]
      exact (free b hm).1
  done := by
    intro X e1 e2 e3 calm k pins s σ H E I free st stop
    subst e1 e2 e3
    obtain ⟨⟨f, g1⟩, g2⟩ := st
    have m1 : x.cps.size = k := stop
    have hh : X.A.in1.handled = none := I.ok.hd calm
    have g2 : s.heap.IsStrIter j (strIterType x) x t x.cps.size := by rw [m1]; exact g2
    exact wpAny_pyNext_enum_endD (Draws.text hh j x t) g1 g2 fun h' up => ⟨rfl, I.turnedL (t' := s.toks) (ch := [c, j]) (fun b o hb q => up b o (fun e => hb (by simp [e])) q) free⟩
  self := fun A k s Q E st h => let ⟨⟨_, g1⟩, _⟩ := st; wpAny_pyIter_enum g1 h
def iEnS (K : PySem.W.Frag) (ta : TA) : TI := fun σ H Rr => ta σ H fun vs H1 => (∃ (m : Bool) (a : Addr) (xs : List V), vs = [.ref a] ∧ SqB m K H1 a xs ∧ Rr (IteB m K a) H1) ∨ ∃ x : Str, vs = [.str x] ∧ Rr (IteS x) H1
theorem pi_enS {X : Cx} {e : Expr} {ta : TA} {p pos tp : Pos} {es : List Expr} {kk : Nat} (hg : Gl X "enumerate") (hm : X.mg "enumerate" = none) (ha : PA X [e] ta)
    (hs : starEach [e] X.env = [(false, eval e X.env)] := by rfl) : PI X (.Tuple es kk tp) (.Call (.Name "enumerate" p) [e] [] pos) (iEnS X.K ta) := by
  refine ⟨fun pins s σ H R I h => ?_⟩
  refine Call_ (ld_blt I hg hm boot_enumerate (PyProof.Rows.callWith_type1 (thn (ha.run pos pins s σ H _ I h) fun us s1 ⟨vs, H1, I1, r1, q1⟩ => ?_) hs rfl))
  rcases q1 with ⟨m, a, xs, rfl, k1, q⟩ | ⟨x, rfl, q⟩
  · cases r1 with
    | cons g1 g2 =>
    cases g2
    cases g1
    obtain ⟨is1, _, p1⟩ := invB I1 k1
    have la := hasB_lt p1
    refine call_en1 (beginsB m a is1.toArray) p1 fun h' g1 g4 up => wpAny_pyIter_enum g1 ?_
    refine ⟨s1.heap.objs.size + 1, [s1.heap.objs.size + 1, s1.heap.objs.size], _, _, H1, rfl, I1.kept (t' := s1.toks) up, turnEn (m := m) (Nat.ne_of_lt la) (Nat.succ_ne_self _) (Nat.ne_of_gt (Nat.lt_succ_of_lt la)), ⟨⟨.none, g1⟩, newB_at g4⟩, fun c hc => ?_, q⟩
    have ge : s1.heap.objs.size ≤ c := by
      have two : c = s1.heap.objs.size + 1 ∨ c = s1.heap.objs.size := by simpa using hc
      rcases two with rfl | rfl
      · exact Nat.le_add_right _ _
      · exact Nat.le_refl _
    exact I1.fpOk ge (I1.hok.fresh ge)
  · cases r1 with
    | cons g1 g2 =>
    cases g2
    obtain ⟨t, rfl⟩ := g1
    refine call_en1 (begins_text x t) trivial fun h' g1 g4 up => wpAny_pyIter_enum g1 ?_
    refine ⟨s1.heap.objs.size + 1, [s1.heap.objs.size + 1, s1.heap.objs.size], _, _, H1, rfl, I1.kept (t' := s1.toks) up, turnEs (t := t) (Nat.succ_ne_self _), ⟨⟨.none, g1⟩, ⟨_, g4, rfl, rfl⟩⟩, fun c hc => ?_, q⟩
    have ge : s1.heap.objs.size ≤ c := by
      have two : c = s1.heap.objs.size + 1 ∨ c = s1.heap.objs.size := by simpa using hc
      rcases two with rfl | rfl
      · exact Nat.le_add_right _ _
      · exact Nat.le_refl _
    exact I1.fpOk ge (I1.hok.fresh ge)
section
variable {X : Cx} {T : Tb} {W : WX} {e : Expr} {fa : Env' → RA} {pos p : Pos}
theorem walk_enS {Z : Hp} {l : List Nat} : Walk T Z (IteS ⟨l.toArray⟩) (enuD (l.map fun c => .str [c])) where
  go := fun i d Z' H e s s' => by
    unfold enuD at e
    rw [List.getElem?_map, List.getElem?_zipIdx, List.getElem?_map] at e
    cases q : l[i]? with
    | none => rw [q] at e; cases e
    | some x =>
      rw [q] at e
      cases e
      refine ⟨⟨x, by simpa using q⟩, fun u H' y => ?_⟩
      obtain ⟨t, c, rfl, ht, rfl, k1⟩ := y
      have k1 : l[i]? = some c := by simpa using k1
      rw [q] at k1
      cases k1
      have := walk_pair (T := T) (v := .int (i : Nat)) (x := .int (i : Nat)) s s' ht (.int _) (.str [x])
      simpa using this
  stop := fun Z' H s s' => by
    show (⟨l.toArray⟩ : Str).cps.size = _
    unfold enuD
    rw [List.length_map, List.length_zipIdx, List.length_map]
    simp
def iEq2 (fa : Env' → RA) : Env' → RI := fun env => (fa env).bindI fun as e => match as with
  | [.d (.lst xs)] => .ok (enuD xs) e
  | [.d (.tup xs)] => .ok (enuD xs) e
  | [.d (.str l)] => .ok (enuD (l.map fun c => .str [c])) e
  | _ => .no
theorem si_enq2 {elts : List Expr} {kk : Nat} {tpos : Pos} (hT : X.K = T.K) (hm : X.mg "enumerate" = none) (ha : SA X T W [e] fa) (hg : Gl X "enumerate" := by rfl)
    (hs : starEach [e] X.env = [(false, eval e X.env)] := by rfl) : SI X T W (.Tuple elts kk tpos) (.Call (.Name "enumerate" p) [e] [] pos) (iEq2 fa) := by
  refine PI.weak (pi_enS hg hm ha hs) fun σ H Rr ⟨G, B, Z, env, E, q⟩ => ?_
  refine useAI E q fun vs H1 Z1 e as s E1 r h1 h2 h3 => ?_
  split at h2
  · rename_i xs
    match vs, r with
    | [v1], ⟨k1, _⟩ =>
      cases k1 with
      | lst hq1 rr1 => exact .inl ⟨false, _, _, rfl, SqL.of (E1.sub _ _ hq1), h1 _ _ rfl H1 Z1 (Same.refl _) E1 _ (walk_enB (m := false) hT (SqL.of hq1) rr1)⟩
  · rename_i xs
    match vs, r with
    | [v1], ⟨k1, _⟩ =>
      cases k1 with
      | tup hq1 rr1 => exact .inl ⟨true, _, _, rfl, by show SqT _ _ _ _; rw [hT]; exact sqt_mono E1.sub hq1, h1 _ _ rfl H1 Z1 (Same.refl _) E1 _ (walk_enB (m := true) hT hq1 rr1)⟩
  · rename_i l
    match vs, r with
    | [v1], ⟨k1, _⟩ =>
      cases k1 with
      | str => exact .inr ⟨_, rfl, h1 _ _ rfl H1 Z1 (Same.refl _) E1 _ walk_enS⟩
  · exact (h2 rfl).elim
end
def eqK2 (N : Prop) (k : List D → Prop) : List AV → Prop
  | [.d (.lst xs)] => k (enuD xs)
  | [.d (.tup xs)] => k (enuD xs)
  | [.d (.str l)] => k (enuD (l.map fun c => .str [c]))
  | _ => N
theorem Ziy {N k xs} : eqK2 N k [.d (.lst xs)] = k (enuD xs) := rfl
theorem Ziz {N k xs} : eqK2 N k [.d (.tup xs)] = k (enuD xs) := rfl
theorem Zja {N k l} : eqK2 N k [.d (.str l)] = k (enuD (l.map fun c => .str [c])) := rfl
theorem Zix {fa : Env' → RA} {e : Env'} {QI : RI → Prop} : wp (iEq2 fa) e QI = wp fa e (aK QI fun as e1 => eqK2 (QI .no) (fun ds => QI (.ok ds e1)) as) := by
  unfold wp iEq2
  refine (RA_bindI_wp (Q := QI)).trans ?_
  congr 1
  funext as e1
  unfold eqK2
  split <;> rfl
end L2.S

set_option Elab.async false
set_option linter.all false
set_option maxRecDepth 100000
set_option maxHeartbeats 4000000
namespace L2.S
open PySem PySem.Spec PyProof.Rows
section
variable {X : Cx} {T : Tb} {W : WX} {a b : Expr} {f g : Env' → R} {pos : Pos}
def sParR (i j : Nat) (f g : Env' → R) : Env' → RS := fun env => (f env).bindS fun d e => (g e).bindR fun r e2 => if canSet e2 j && canSet (e2.set j (ofR r)) i then .nx ((e2.set j (ofR r)).set i (.val d)) else .no
theorem ss_parR {i j : Nat} {x y : Str} {px py pt : Pos} {kt k2 pt2} (hc : X.calm = true) (hN : X.N.Nodup) (ha : SE X T W a f) (hb : SE X T W b g) (hi : X.N[i]? = some x := by rfl) (hj : X.N[j]? = some y := by rfl) (hij : i ≠ j := by decide)
    (hx : X.env.scope.names.lookup x = some .local := by rfl) (hy : X.env.scope.names.lookup y = some .local := by rfl)
    (hw : swappedStores [.Tuple [.Name x px, .Name y py] kt pt] (.Tuple [a, b] k2 pt2) X.env = pure (some [x, y]) := by rfl)
    (hs : swapsWithSole [.Tuple [.Name x px, .Name y py] kt pt] (.Tuple [a, b] k2 pt2) pos.line X.env = pure false := by rfl)
    (s1 : starEach [a, b] X.env = (false, eval a X.env) :: starEach [b] X.env := by rfl) (s2 : starEach [b] X.env = (false, eval b X.env) :: starEach [] X.env := by rfl) :
    SS X T W (.Assign [.Tuple [.Name x px, .Name y py] kt pt] (.Tuple [a, b] k2 pt2) pos) (sParR i j f g) := by
  refine PS.weak (ps_par hc hN hi hj hij hx hy (pa_cons ha (pa_cons hb pa_nil s2) s1) hw hs) fun K σ H ⟨G, B, Z, env, E, q⟩ => ?_
  show tX T W f σ H _
  refine useS E q fun v H1 Z1 e d s1 E1 r1 q1 => ?_
  show tX T W g σ H1 _
  refine useRV E1 q1 fun v2 H2 Z2 e2 r s2 E2 r2 q2 => ?_
  show ∃ v' w', [v, v2] = [v', w'] ∧ K.nx ((σ.set i (some v')).set j (some w')) H2
  by_cases hcs : (canSet e2 j && canSet (e2.set j (ofR r)) i) = true
  · rw [if_pos hcs] at q2
    rw [Bool.and_eq_true] at hcs
    have E3 := E2.store (i := j) (r := r) hcs.1 r2
    have E4 := E3.store (i := i) (r := .d d) hcs.2 (r1.mono s2)
    rw [List.set_comm _ _ (fun z => hij z.symm)] at E4
    exact ⟨_, _, rfl, q2 _ H2 Z2 (Same.refl _) E4⟩
  · rw [if_neg hcs] at q2
    exact q2.elim
def sParL (i j : Nat) (f : Env' → R) (k : Int) : Env' → RS := fun env => (f env).bindR fun r e => if canSet e i && canSet (e.set i (ofR r)) j then .nx ((e.set i (ofR r)).set j (.val (.int k))) else .no
theorem ss_parL {i j : Nat} {x y : Str} {px py pt : Pos} {kt k2 pt2} {k : Int} {kk : Nat} {pk : Pos} (hc : X.calm = true) (hN : X.N.Nodup) (ha : SE X T W a f) (hi : X.N[i]? = some x := by rfl) (hj : X.N[j]? = some y := by rfl) (hij : i ≠ j := by decide)
    (hx : X.env.scope.names.lookup x = some .local := by rfl) (hy : X.env.scope.names.lookup y = some .local := by rfl)
    (hw : swappedStores [.Tuple [.Name x px, .Name y py] kt pt] (.Tuple [a, .Constant (.int k) kk pk] k2 pt2) X.env = pure (some [x, y]) := by rfl)
    (hs : swapsWithSole [.Tuple [.Name x px, .Name y py] kt pt] (.Tuple [a, .Constant (.int k) kk pk] k2 pt2) pos.line X.env = pure false := by rfl)
    (s1 : starEach [a, .Constant (.int k) kk pk] X.env = (false, eval a X.env) :: starEach [.Constant (.int k) kk pk] X.env := by rfl) (s2 : starEach [.Constant (.int k) kk pk] X.env = (false, eval (.Constant (.int k) kk pk) X.env) :: starEach [] X.env := by rfl) :
    SS X T W (.Assign [.Tuple [.Name x px, .Name y py] kt pt] (.Tuple [a, .Constant (.int k) kk pk] k2 pt2) pos) (sParL i j f k) := by
  refine PS.weak (ps_par hc hN hi hj hij hx hy (pa_cons ha (pa_cons pe_int pa_nil s2) s1) hw hs) fun K σ H ⟨G, B, Z, env, E, q⟩ => ?_
  show tX T W f σ H _
  refine useRV E q fun v H1 Z1 e r s1 E1 r1 q1 => ?_
  show ∃ v' w', [v, V.int k] = [v', w'] ∧ K.nx ((σ.set i (some v')).set j (some w')) H1
  by_cases hcs : (canSet e i && canSet (e.set i (ofR r)) j) = true
  · rw [if_pos hcs] at q1
    rw [Bool.and_eq_true] at hcs
    have E3 := E1.store (i := i) (r := r) hcs.1 r1
    have E4 := E3.store (i := j) (r := .d (.int k)) hcs.2 (.int k)
    exact ⟨_, _, rfl, q1 _ H1 Z1 (Same.refl _) E4⟩
  · rw [if_neg hcs] at q1
    exact q1.elim
end
section
variable {e : Env'} {Q : RS → Prop} {f g : Env' → R}
theorem Zjf {i j} : wp (sParR i j f g) e Q = wp f e (bK Q fun d e1 => wp g e1 (rvK Q fun r e2 => rv2 r fun x => setN e2 j x (fun e3 => setN e3 i (.val d) (fun e4 => Q (.nx e4)) (Q .no)) (Q .no))) := by
  unfold wp sParR
  refine (R_bindS_wp (Q := Q)).trans ?_
  congr 1
  funext d e1
  refine (R_bindR_wp (Q := Q)).trans ?_
  congr 1
  funext r e2
  unfold rv2 setN
  by_cases h1 : canSet e2 j = true
  · by_cases h2 : canSet (e2.set j (ofR r)) i = true
    · simp [h1, h2]
    · simp [h1, h2]
  · simp [h1]
theorem Zje {i j} {k : Int} : wp (sParL i j f k) e Q = wp f e (rvK Q fun r e2 => rv2 r fun x => setN e2 i x (fun e3 => setN e3 j (.val (.int k)) (fun e4 => Q (.nx e4)) (Q .no)) (Q .no)) := by
  unfold wp sParL
  refine (R_bindR_wp (Q := Q)).trans ?_
  congr 1
  funext r e2
  unfold rv2 setN
  by_cases h1 : canSet e2 i = true
  · by_cases h2 : canSet (e2.set i (ofR r)) j = true
    · simp [h1, h2]
    · simp [h1, h2]
  · simp [h1]
end
end L2.S

set_option linter.all false
namespace L2.S.W
def sgc (n d : Int) : Int := if 0 < d then (Int.gcd n d : Int) else -(Int.gcd n d : Int)
def nrN (n d : Int) : Int := n.fdiv (sgc n d)
def nrD (n d : Int) : Int := d.fdiv (sgc n d)
theorem sgc_ne {n d : Int} (h : d ≠ 0) : sgc n d ≠ 0 := by
  have : Int.gcd n d ≠ 0 := fun z => h (Int.gcd_eq_zero_iff.mp z).2
  unfold sgc
  split <;> omega
theorem sgc_dvd_n (n d : Int) : sgc n d ∣ n := by
  unfold sgc
  split
  · exact Int.gcd_dvd_left ..
  · exact (Int.neg_dvd).mpr (Int.gcd_dvd_left ..)
theorem sgc_dvd_d (n d : Int) : sgc n d ∣ d := by
  unfold sgc
  split
  · exact Int.gcd_dvd_right ..
  · exact (Int.neg_dvd).mpr (Int.gcd_dvd_right ..)
theorem fdiv_mul_of_dvd {a b : Int} (h : b ∣ a) : a.fdiv b * b = a := Int.fdiv_mul_cancel h
theorem nrN_mul (n d : Int) : nrN n d * sgc n d = n := fdiv_mul_of_dvd (sgc_dvd_n n d)
theorem nrD_mul (n d : Int) : nrD n d * sgc n d = d := fdiv_mul_of_dvd (sgc_dvd_d n d)
theorem nrD_pos {n d : Int} (h : d ≠ 0) : 0 < nrD n d := by
  have e := nrD_mul n d
  have hs := sgc_ne (n := n) h
  rcases Int.lt_trichotomy (nrD n d) 0 with q | q | q
  · exfalso
    by_cases hd : 0 < d
    · have : 0 < sgc n d := by unfold sgc at hs ⊢; rw [if_pos hd] at hs ⊢; omega
      have := Int.mul_neg_of_neg_of_pos q this
      omega
    · have : sgc n d < 0 := by unfold sgc at hs ⊢; rw [if_neg hd] at hs ⊢; omega
      have := Int.mul_pos_of_neg_of_neg q this
      omega
  · rw [q, Int.zero_mul] at e; exact (h e.symm).elim
  · exact q
theorem nr_cross (n d : Int) : nrN n d * d = n * nrD n d := by
  have h1 := nrN_mul n d
  have h2 := nrD_mul n d
  calc nrN n d * d = nrN n d * (nrD n d * sgc n d) := by rw [h2]
    _ = (nrN n d * sgc n d) * nrD n d := by ac_rfl
    _ = n * nrD n d := by rw [h1]
theorem natAbs_sgc (n d : Int) : (sgc n d).natAbs = Int.gcd n d := by
  unfold sgc
  split <;> omega
theorem nr_gcd {n d : Int} (h : d ≠ 0) : Int.gcd (nrN n d) (nrD n d) = 1 := by
  have g0 : 0 < Int.gcd n d := Nat.pos_of_ne_zero fun z => h (Int.gcd_eq_zero_iff.mp z).2
  have e : Int.gcd (nrN n d * sgc n d) (nrD n d * sgc n d) = Int.gcd (nrN n d) (nrD n d) * (sgc n d).natAbs := Int.gcd_mul_right ..
  rw [nrN_mul, nrD_mul, natAbs_sgc] at e
  exact Nat.eq_of_mul_eq_mul_right g0 (by omega)
theorem dvd_co {d n m : Int} (h : d ∣ n * m) (g : Int.gcd n d = 1) : d ∣ m := by
  have h' : d.natAbs ∣ n.natAbs * m.natAbs := by rw [← Int.natAbs_mul]; exact Int.natAbs_dvd_natAbs.mpr h
  have c : Nat.Coprime d.natAbs n.natAbs := by
    unfold Nat.Coprime
    rw [Nat.gcd_comm]
    exact g
  exact Int.natAbs_dvd_natAbs.mp (c.dvd_of_dvd_mul_left h')
theorem low_eq {n d n' d' : Int} (h : 0 < d) (h' : 0 < d') (g : Int.gcd n d = 1) (g' : Int.gcd n' d' = 1) (e : n * d' = n' * d) : n = n' ∧ d = d' := by
  have hd : d ∣ d' := by
    have : d ∣ n * d' := ⟨n', by rw [e]; ac_rfl⟩
    exact dvd_co this g
  have hd' : d' ∣ d := by
    have : d' ∣ n' * d := ⟨n, by rw [← e]; ac_rfl⟩
    exact dvd_co this g'
  have ed : d = d' := Int.dvd_antisymm (by omega) (by omega) hd hd'
  subst ed
  exact ⟨Int.eq_of_mul_eq_mul_right (by omega) e, rfl⟩
end L2.S.W

set_option linter.all false
namespace L2.S.W
open L2.S
@[irreducible] def Bt (k : Nat) (x : Int) : Prop := x.natAbs < 2 ^ k
theorem Bt.of {k : Nat} {x : Int} (h : x.natAbs < 2 ^ k) : Bt k x := by unfold Bt; exact h
theorem Bt.lt {k : Nat} {x : Int} (h : Bt k x) : x.natAbs < 2 ^ k := by unfold Bt at h; exact h
theorem Bt.mono {a b : Nat} {x : Int} (h : Bt a x) (l : a ≤ b) : Bt b x := .of (natAbs_le_pow h.lt l)
theorem Bt.mul {a b : Nat} {x y : Int} (h : Bt a x) (k : Bt b y) : Bt (a + b) (x * y) := .of (natAbs_mul_lt h.lt k.lt)
theorem Bt.add {a : Nat} {x y : Int} (h : Bt a x) (k : Bt a y) : Bt (a + 1) (x + y) := .of (natAbs_add_lt h.lt k.lt)
theorem Bt.sub {a : Nat} {x y : Int} (h : Bt a x) (k : Bt a y) : Bt (a + 1) (x - y) := .of (natAbs_sub_lt h.lt k.lt)
theorem Bt.neg {a : Nat} {x : Int} (h : Bt a x) : Bt a (-x) := .of (by rw [Int.natAbs_neg]; exact h.lt)
theorem Bt.ok {a b : Nat} {x y : Int} (h : Bt a x) (k : Bt b y) (l : a + b ≤ 100000000 := by decide) (ha : 0 < a := by decide) (hb : 0 < b := by decide) : mulOk x y = true := mulOk_lt h.lt k.lt l ha hb
theorem Bt.s40 {x : Int} (h1 : -1000000000000 ≤ x) (h2 : x ≤ 1000000000000) : Bt 40 x := .of (by omega)
theorem Bt.zero {k : Nat} : Bt k 0 := .of (Nat.two_pow_pos k)
theorem Bt.bits {z : Int} {k : Nat} (h : PySem.Builtin.Int.intBits z ≤ k) : Bt k z := .of (bits_lt h)
theorem Bt.getD {ns : List Int} {k b : Nat} (h : ∀ z ∈ ns, PySem.Builtin.Int.intBits z ≤ b) : Bt b (ns.getD k 0) := by
  rw [List.getD_eq_getElem?_getD]
  cases q : ns[k]? with
  | none => exact .zero
  | some z => exact .bits (h z (List.mem_of_getElem? q))
end L2.S.W

set_option linter.all false
namespace L2.S.W
open L2.S
def Sz (k : Nat) (q : Rat) : Prop := Bt k q.num ∧ Bt k (q.den : Int)
theorem Sz.mono {a b : Nat} {q : Rat} (h : Sz a q) (l : a ≤ b) : Sz b q := ⟨h.1.mono l, h.2.mono l⟩
theorem den_pos' (q : Rat) : (0 : Int) < q.den := by have := q.den_pos; omega
theorem den_ne' (q : Rat) : (q.den : Int) ≠ 0 := by have := den_pos' q; omega
theorem num_gcd (q : Rat) : Int.gcd q.num q.den = 1 := q.reduced
theorem nr_q {n d : Int} (h : d ≠ 0) : nrN n d = (Rat.divInt n d).num ∧ nrD n d = ((Rat.divInt n d).den : Int) := by
  have e : Rat.divInt (Rat.divInt n d).num (Rat.divInt n d).den = Rat.divInt n d := Rat.num_divInt_den _
  have c := (Rat.divInt_eq_divInt_iff (den_ne' _) h).mp e
  have c1 := nr_cross n d
  refine low_eq (nrD_pos h) (den_pos' _) (nr_gcd h) (num_gcd _) ?_
  refine Int.eq_of_mul_eq_mul_right h ?_
  generalize hq : Rat.divInt n d = q at c ⊢
  calc nrN n d * ↑q.den * d = (nrN n d * d) * ↑q.den := by ac_rfl
    _ = n * nrD n d * ↑q.den := by rw [c1]
    _ = (n * ↑q.den) * nrD n d := by ac_rfl
    _ = (q.num * d) * nrD n d := by rw [c]
    _ = q.num * nrD n d * d := by ac_rfl
theorem nr_bt {n d : Int} {k : Nat} (h : d ≠ 0) (hn : Bt k n) (hd : Bt k d) : Bt k (nrN n d) ∧ Bt k (nrD n d) := by
  have g0 := sgc_ne (n := n) h
  have le : ∀ {x y : Int}, x * sgc n d = y → x.natAbs ≤ y.natAbs := fun {x y} e => by
    rw [← e, Int.natAbs_mul]
    exact Nat.le_mul_of_pos_right _ (by omega)
  exact ⟨.of (Nat.lt_of_le_of_lt (le (nrN_mul n d)) hn.lt), .of (Nat.lt_of_le_of_lt (le (nrD_mul n d)) hd.lt)⟩
theorem Sz.div {n d : Int} {k : Nat} (h : d ≠ 0) (hn : Bt k n) (hd : Bt k d) : Sz k (Rat.divInt n d) := by
  have := nr_bt h hn hd
  rw [(nr_q h).1, (nr_q h).2] at this
  exact this
theorem q_add (a b : Rat) : Rat.divInt (a.num * b.den + b.num * a.den) ((a.den : Int) * b.den) = a + b := by
  rw [← Rat.divInt_add_divInt _ _ (den_ne' a) (den_ne' b), Rat.num_divInt_den, Rat.num_divInt_den]
theorem q_sub (a b : Rat) : Rat.divInt (a.num * b.den - b.num * a.den) ((a.den : Int) * b.den) = a - b := by
  rw [← Rat.divInt_sub_divInt _ _ (den_ne' a) (den_ne' b), Rat.num_divInt_den, Rat.num_divInt_den]
theorem q_mul (a b : Rat) : Rat.divInt (a.num * b.num) ((a.den : Int) * b.den) = a * b := by
  rw [← Rat.divInt_mul_divInt, Rat.num_divInt_den, Rat.num_divInt_den]
theorem dd_ne (a b : Rat) : (a.den : Int) * b.den ≠ 0 := Int.mul_ne_zero (den_ne' a) (den_ne' b)
theorem Sz.add {a b : Rat} {k : Nat} (ha : Sz k a) (hb : Sz k b) : Sz (2 * k + 1) (a + b) := by
  rw [← q_add]
  exact .div (dd_ne a b) (((ha.1.mul hb.2).add (hb.1.mul ha.2)).mono (by omega)) ((ha.2.mul hb.2).mono (by omega))
theorem Sz.sub {a b : Rat} {k : Nat} (ha : Sz k a) (hb : Sz k b) : Sz (2 * k + 1) (a - b) := by
  rw [← q_sub]
  exact .div (dd_ne a b) (((ha.1.mul hb.2).sub (hb.1.mul ha.2)).mono (by omega)) ((ha.2.mul hb.2).mono (by omega))
theorem Sz.mul {a b : Rat} {j k : Nat} (ha : Sz j a) (hb : Sz k b) : Sz (j + k) (a * b) := by
  rw [← q_mul]
  exact .div (dd_ne a b) (ha.1.mul hb.1) (ha.2.mul hb.2)
theorem Sz.neg {a : Rat} {k : Nat} (ha : Sz k a) : Sz k (-a) := ⟨by rw [Rat.neg_num]; exact ha.1.neg, ha.2⟩
theorem Sz.zero : Sz 1 0 := ⟨.of (by decide), .of (by decide)⟩
theorem Sz.one : Sz 1 1 := ⟨.of (by decide), .of (by decide)⟩
abbrev rD (q : Rat) : D := .obj 0 [.int q.num, .int (q.den : Int)]
abbrev pD (q : Rat) : D := .tup [.int q.num, .int (q.den : Int)]
end L2.S.W

set_option linter.all false
namespace L2.S.W
open L2.S
def vec (n : Nat) (f : Nat → D) : List D := (List.range n).map f
section
variable {n m k : Nat} {f g : Nat → D} {x : D}
theorem vec_len : (vec n f).length = n := by simp [vec]
theorem vec_get (h : k < n) : (vec n f)[k]? = some (f k) := by
  unfold vec
  rw [List.getElem?_map, List.getElem?_range h]
  rfl
theorem vec_get' : (vec n f)[k]? = if k < n then some (f k) else none := by
  by_cases h : k < n
  · rw [if_pos h, vec_get h]
  · rw [if_neg h, List.getElem?_eq_none (by rw [vec_len]; omega)]
theorem vec_of {l : List D} (h : l.length = n) (hg : ∀ i, i < n → l[i]? = some (f i)) : l = vec n f := by
  apply List.ext_getElem?
  intro i
  rw [vec_get']
  split
  · rename_i hi; exact hg i hi
  · rename_i hi; exact List.getElem?_eq_none (by omega)
theorem vec_succ : vec (n + 1) f = vec n f ++ [f n] := by
  unfold vec
  rw [List.range_succ, List.map_append]
  rfl
theorem rng_vec : rngD 0 (n : Int) = vec n (fun i => .int (i : Int)) := rngD_0 n
end
def sumN : Nat → (Nat → Rat) → Rat
  | 0, _ => 0
  | n + 1, f => sumN n f + f n
section
variable {n : Nat} {f g : Nat → Rat} {c : Rat}
theorem sumN_ext : ∀ {n : Nat} {f g : Nat → Rat}, (∀ i, i < n → f i = g i) → sumN n f = sumN n g
  | 0, _, _, _ => rfl
  | n + 1, f, g, h => by
    show sumN n f + f n = sumN n g + g n
    rw [sumN_ext fun i hi => h i (by omega), h n (by omega)]
theorem sumN_zero : ∀ {n : Nat} {f : Nat → Rat}, (∀ i, i < n → f i = 0) → sumN n f = 0
  | 0, _, _ => rfl
  | n + 1, f, h => by
    show sumN n f + f n = 0
    rw [sumN_zero fun i hi => h i (by omega), h n (by omega), Rat.add_zero]
theorem sumN_add : ∀ {n : Nat} {f g : Nat → Rat}, sumN n (fun i => f i + g i) = sumN n f + sumN n g
  | 0, _, _ => by show (0 : Rat) = 0 + 0; rw [Rat.add_zero]
  | n + 1, f, g => by
    show sumN n (fun i => f i + g i) + (f n + g n) = (sumN n f + f n) + (sumN n g + g n)
    rw [sumN_add]
    grind
theorem sumN_mul : ∀ {n : Nat} {f : Nat → Rat}, sumN n (fun i => c * f i) = c * sumN n f
  | 0, _ => by show (0 : Rat) = c * 0; rw [Rat.mul_zero]
  | n + 1, f => by
    show sumN n (fun i => c * f i) + c * f n = c * (sumN n f + f n)
    rw [sumN_mul]
    grind
theorem sumN_neg : ∀ {n : Nat} {f : Nat → Rat}, sumN n (fun i => - f i) = - sumN n f
  | 0, _ => by show (0 : Rat) = -0; rfl
  | n + 1, f => by
    show sumN n (fun i => - f i) + - f n = - (sumN n f + f n)
    rw [sumN_neg]
    grind
theorem sumN_sub : sumN n (fun i => f i - g i) = sumN n f - sumN n g := by
  have e : (fun i => f i - g i) = fun i => f i + (- g i) := by funext i; rw [Rat.sub_eq_add_neg]
  rw [e, sumN_add, sumN_neg, Rat.sub_eq_add_neg]
theorem sumN_single : ∀ {n k : Nat} {f : Nat → Rat}, k < n → (∀ i, i < n → i ≠ k → f i = 0) → sumN n f = f k
  | 0, _, _, h, _ => by omega
  | n + 1, k, f, h, hz => by
    show sumN n f + f n = f k
    by_cases e : k = n
    · subst e
      rw [sumN_zero fun i hi => hz i (by omega) (by omega), Rat.zero_add]
    · rw [sumN_single (k := k) (by omega) fun i hi hn => hz i (by omega) hn, hz n (by omega) (fun z => e z.symm), Rat.add_zero]
theorem sumN_swap : ∀ {n m : Nat} {f : Nat → Nat → Rat}, sumN n (fun i => sumN m (fun j => f i j)) = sumN m (fun j => sumN n (fun i => f i j))
  | 0, m, f => by
    show (0 : Rat) = sumN m (fun _ => 0)
    rw [sumN_zero fun _ _ => rfl]
  | n + 1, m, f => by
    show sumN n (fun i => sumN m (fun j => f i j)) + sumN m (fun j => f n j) = sumN m (fun j => sumN n (fun i => f i j) + f n j)
    rw [sumN_swap, ← sumN_add]
end
structure Tab where
  t : Nat → Nat → Rat
  pv : List Nat
def firstR (n : Nat) (t : Nat → Nat → Rat) (c lo : Nat) : Option Nat := (List.range n).find? fun i => decide (lo ≤ i) && decide (t i c ≠ 0)
def stepT (t : Nat → Nat → Rat) (d p c : Nat) : Nat → Nat → Rat := fun i j =>
  if i = d then (t p c)⁻¹ * t p j else (if i = p then t d else t i) j - (if i = p then t d else t i) c * ((t p c)⁻¹ * t p j)
def elim1 (n : Nat) (s : Tab) (c : Nat) : Tab := match firstR n s.t c s.pv.length with
  | none => s
  | some p => ⟨stepT s.t s.pv.length p c, s.pv ++ [c]⟩
def elim (n : Nat) (t : Nat → Nat → Rat) : Nat → Tab
  | 0 => ⟨t, []⟩
  | c + 1 => elim1 n (elim n t c) c
def Ker (n L : Nat) (t : Nat → Nat → Rat) (z : Nat → Rat) : Prop := ∀ i, i < n → sumN L (fun j => t i j * z j) = 0
structure Red (n L : Nat) (t0 : Nat → Nat → Rat) (c : Nat) (s : Tab) : Prop where
  le : s.pv.length ≤ n
  srt : s.pv.Pairwise (· < ·)
  lt : ∀ p ∈ s.pv, p < c
  unit : ∀ i j p, i < n → s.pv[j]? = some p → s.t i p = if i = j then 1 else 0
  zero : ∀ i j, s.pv.length ≤ i → i < n → j < c → s.t i j = 0
  lead : ∀ i p j, s.pv[i]? = some p → j < p → s.t i j = 0
  ker : ∀ z, Ker n L s.t z ↔ Ker n L t0 z
end L2.S.W

set_option linter.all false
namespace L2.S.W
open L2.S
theorem lc_vec {vs : List Nat} {h : D → Env' → Option Env'} {c : Env' → RT} {f : Env' → R} {e e0 : Env'} {Q : R → Prop} {n : Nat} {g : Nat → D} (F : Nat → D) (hw : canWipe e vs = true) (hz : wipeE e vs = e0) (hn : n ≤ 16777216) (hi : ∀ i, i < n → lcItem vs h c f (g i) e0 (fun y => y = some (F i))) (hq : Q (.ok (.o (.l (vec n F))) e)) : lcK vs h c f (vec n g) e Q :=
  lc_map (l := List.range n) F hw (by simpa using hn) (fun i hi' => by rw [hz]; exact hi i (List.mem_range.mp hi')) hq
theorem lc_rng {vs : List Nat} {h : D → Env' → Option Env'} {c : Env' → RT} {f : Env' → R} {e e0 : Env'} {Q : R → Prop} {n : Nat} (F : Nat → D) (hw : canWipe e vs = true) (hz : wipeE e vs = e0) (hn : n ≤ 16777216) (hi : ∀ i, i < n → lcItem vs h c f (.int (i : Int)) e0 (fun y => y = some (F i))) (hq : Q (.ok (.o (.l (vec n F))) e)) : lcK vs h c f (rngD 0 (n : Int)) e Q := by
  rw [rng_vec]
  exact lc_vec F hw hz hn hi hq
theorem vec_atI {n k : Nat} {f : Nat → D} (h : k < n) : atI (vec n f) (k : Int) = some (f k) := by
  rw [Zlv, vec_get h]
theorem plains_of {k : Nat} : ∀ {ds : List D}, (∀ d ∈ ds, plain k d = true) → plains k ds = true
  | [], _ => by simp [plains]
  | d :: ds, h => by
    rw [plains, h d (by simp), plains_of fun z hz => h z (by simp [hz])]
    rfl
end L2.S.W

set_option linter.all false
namespace L2.S.W
open L2.S
abbrev rowD (L : Nat) (r : Nat → Rat) : D := .lst (vec L fun j => rD (r j))
abbrev rowT (L : Nat) (r : Nat → Rat) : D := .tup (vec L fun j => rD (r j))
abbrev rowP (L : Nat) (r : Nat → Rat) : D := .tup (vec L fun j => pD (r j))
@[irreducible] def tbD (n L : Nat) (t : Nat → Nat → Rat) : List D := vec n fun i => rowD L (t i)
@[irreducible] def pvD (l : List Nat) : List D := l.map fun (p : Nat) => D.int (p : Int)
abbrev mD (h w : Nat) (t : Nat → Nat → Rat) : D := .obj 1 [.tup (vec h fun i => rowT w (t i)), .int w]
def kvec (s : Tab) (f : Nat) : Nat → Nat → Rat
  | 0 => fun j => if j = f then 1 else 0
  | i + 1 => fun j => if j = s.pv.getD i 0 then - s.t i f else kvec s f i j
def svec (s : Tab) (w : Nat) : Nat → Nat → Rat
  | 0 => fun _ => 0
  | i + 1 => fun j => if j = s.pv.getD i 0 then s.t i w else svec s w i j
def frees (pv : List Nat) (n : Nat) : List Nat := (List.range n).filter fun f => !decide (f ∈ pv)
def augT (w : Nat) (t : Nat → Nat → Rat) (b : Nat → Rat) : Nat → Nat → Rat := fun k j => if j < w + 1 then (if j < w then t k j else b k) else (if j - (w + 1) = k then 1 else 0)
end L2.S.W

set_option linter.all false
namespace L2.S.W
open L2.S
namespace Red
variable {n L w : Nat} {t0 : Nat → Nat → Rat} {s : Tab}
theorem get (_ : Red n L t0 w s) {i : Nat} (hi : i < s.pv.length) : s.pv[i]? = some (s.pv.getD i 0) := by
  rw [List.getD_eq_getElem?_getD, List.getElem?_eq_getElem hi]
  rfl
theorem mem (R : Red n L t0 w s) {i : Nat} (hi : i < s.pv.length) : s.pv.getD i 0 ∈ s.pv := List.mem_of_getElem? (R.get hi)
theorem plt (R : Red n L t0 w s) {i : Nat} (hi : i < s.pv.length) : s.pv.getD i 0 < w := R.lt _ (R.mem hi)
theorem inj (R : Red n L t0 w s) {i k : Nat} (hi : i < s.pv.length) (hk : k < s.pv.length) (e : s.pv.getD i 0 = s.pv.getD k 0) : i = k := by
  have h := List.pairwise_iff_getElem.mp R.srt
  rw [List.getD_eq_getElem?_getD, List.getD_eq_getElem?_getD, List.getElem?_eq_getElem hi, List.getElem?_eq_getElem hk] at e
  have e : s.pv[i] = s.pv[k] := e
  rcases Nat.lt_trichotomy i k with h1 | h1 | h1
  · have := h i k hi hk h1; omega
  · exact h1
  · have := h k i hk hi h1; omega
theorem ofmem (_ : Red n L t0 w s) {j : Nat} (h : j ∈ s.pv) : ∃ k, k < s.pv.length ∧ s.pv.getD k 0 = j := by
  obtain ⟨k, hk, e⟩ := List.mem_iff_getElem.mp h
  refine ⟨k, hk, ?_⟩
  rw [List.getD_eq_getElem?_getD, List.getElem?_eq_getElem hk]
  exact e
theorem unitP (R : Red n L t0 w s) {i k : Nat} (hi : i < n) (hk : k < s.pv.length) : s.t i (s.pv.getD k 0) = if i = k then 1 else 0 := R.unit i k _ hi (R.get hk)
theorem row (R : Red n L t0 w s) {i : Nat} {z : Nat → Rat} (hi : i < s.pv.length) (hz : ∀ j, j < w → j ∉ s.pv → s.t i j * z j = 0) : sumN w (fun j => s.t i j * z j) = z (s.pv.getD i 0) := by
  have hn := R.le
  rw [sumN_single (k := s.pv.getD i 0) (R.plt hi) fun j hj hne => ?_, R.unitP (by omega) hi, if_pos rfl, Rat.one_mul]
  by_cases hm : j ∈ s.pv
  · obtain ⟨k, hk, rfl⟩ := R.ofmem hm
    rw [R.unitP (by omega) hk, if_neg (fun e => hne (by rw [e])), Rat.zero_mul]
  · exact hz j hj hm
theorem kin (R : Red n L t0 w s) {f i : Nat} : ∀ {m : Nat}, m ≤ s.pv.length → i < m → kvec s f m (s.pv.getD i 0) = - s.t i f
  | 0, _, h => by omega
  | m + 1, hm, h => by
    show (if s.pv.getD i 0 = s.pv.getD m 0 then _ else _) = _
    by_cases e : i = m
    · rw [if_pos (by rw [e]), e]
    · rw [if_neg (fun z => e (R.inj (by omega) hm z)), R.kin (by omega) (by omega)]
end Red
theorem Ker.sub {n L : Nat} {t : Nat → Nat → Rat} {y z : Nat → Rat} (hy : Ker n L t y) (hz : Ker n L t z) : Ker n L t fun j => y j - z j := fun i hi => by
  have e : (fun j => t i j * (y j - z j)) = fun j => t i j * y j - t i j * z j := by funext j; grind
  rw [e, sumN_sub, hy i hi, hz i hi]
  grind
theorem Ker.sum {n L : Nat} {t : Nat → Nat → Rat} {m : Nat} {c : Nat → Rat} {v : Nat → Nat → Rat} (hv : ∀ k, k < m → Ker n L t (v k)) : Ker n L t fun j => sumN m fun k => c k * v k j := fun i hi => by
  have e : (fun j => t i j * sumN m fun k => c k * v k j) = fun j => sumN m fun k => c k * (t i j * v k j) := by
    funext j
    rw [← sumN_mul]
    exact sumN_ext fun k _ => by grind
  rw [e, sumN_swap]
  refine sumN_zero fun k hk => ?_
  rw [sumN_mul, hv k hk i hi, Rat.mul_zero]
def beside (w : Nat) (x : Nat → Rat) : Nat → Rat := fun j => if j < w then x j else if j = w then -1 else 0
end L2.S.W

set_option linter.all false
namespace L2.S.W
open L2.S
theorem Fr1.wipe {x : SV} (h : Fr1 x) : isOwn x = false := by rcases h with rfl | ⟨d, rfl⟩ <;> rfl
end L2.S.W

set_option linter.all false
namespace L2.S.W
open L2.S
def trace (w : Nat) (u : Nat → Nat → Rat) (j : Nat) : Nat → Rat := fun m => if m = j then 1 else if m < w + 1 then 0 else - u (m - (w + 1)) j
end L2.S.W

set_option linter.all false
namespace L2.S.W
open L2.S
section
variable {s : Tab} {v : Nat}
end
def augU (w : Nat) (t : Nat → Nat → Rat) : Nat → Nat → Rat := fun k j => if j < w then t k j else if j - w = k then 1 else 0
def traceU (w : Nat) (u : Nat → Nat → Rat) (j : Nat) : Nat → Rat := fun m => if m = j then 1 else if m < w then 0 else - u (m - w) j
theorem vec_enu {n : Nat} {f : Nat → D} : enuD (vec n f) = vec n fun i => .tup [.int (i : Int), f i] := by
  unfold enuD
  refine vec_of (by simp [vec_len]) fun i hi => ?_
  rw [List.getElem?_map, List.getElem?_zipIdx, vec_get hi]
  simp
end L2.S.W

set_option Elab.async false
set_option linter.all false
set_option maxRecDepth 100000
set_option maxHeartbeats 4000000
namespace L2.S.W
open L2.S
theorem Zpf {c : Nat} {l : List Nat} : pIn (.str [c]) (.str l) = some (.d (.bl (decide (c ∈ l)))) := rfl
theorem Zpg {c : Nat} {l : List Nat} : pNin (.str [c]) (.str l) = some (.d (.bl (!decide (c ∈ l)))) := rfl
def plc (l : List Nat) (c : Nat) : Nat := (l.findIdx? (fun d => d == c)).getD 0
def sumZ (n : Nat) (f : Nat → Int) : Int := ((List.range n).map f).sum
def stepV (n : Nat) (r : Nat → Rat) (M : Nat → Nat → Rat) : Nat → Rat := fun j => sumN n fun i => r i * M i j
def after (n : Nat) (M : Nat → Nat → Nat → Rat) : (Nat → Rat) → List Nat → Nat → Rat
  | r, [] => r
  | r, a :: w => after n M (stepV n r (M a)) w
def before (n : Nat) (M : Nat → Nat → Nat → Rat) (c : Nat → Rat) : List Nat → Nat → Rat
  | [] => c
  | a :: w => fun i => sumN n fun j => M a i j * before n M c w j
def wt (n : Nat) (M : Nat → Nat → Nat → Rat) (r c : Nat → Rat) (w : List Nat) : Rat := sumN n fun i => after n M r w i * c i
section
variable {n : Nat} {M : Nat → Nat → Nat → Rat} {r s c : Nat → Rat} {u v w : List Nat}
def szA (n a k : Nat) : Nat → Nat
  | 0 => k
  | t + 1 => 1 + n * (szA n a k t + a + 1)
end
def stepZ (n : Nat) (r : Nat → Int) (M : Nat → Nat → Int) : Nat → Int := fun j => sumZ n fun i => r i * M i j
def afterZ (n : Nat) (M : Nat → Nat → Nat → Int) : (Nat → Int) → List Nat → Nat → Int
  | r, [] => r
  | r, a :: w => afterZ n M (stepZ n r (M a)) w
def wtZ (n : Nat) (M : Nat → Nat → Nat → Int) (r c : Nat → Int) (w : List Nat) : Int := sumZ n fun i => afterZ n M r w i * c i
abbrev qv (r : Nat → Int) : Nat → Rat := fun i => (r i : Rat)
abbrev qm (M : Nat → Nat → Nat → Int) : Nat → Nat → Nat → Rat := fun a i j => (M a i j : Rat)
theorem for_l {α : Type} {h : D → Env' → Option Env'} {t : Env' → RS} {e : Env'} {Q : RS → Prop} {l : List α} {F : α → D} (P : Nat → Env' → Prop) (h0 : P 0 e)
    (st : ∀ i e (hi : i < l.length), P i e → gK h (F l[i]) e (fun e1 => wp t e1 (lpK (fun e2 => P (i + 1) e2) Q)) (Q .no)) (fin : ∀ e, P l.length e → Q (.nx e)) : wp (forL h t (l.map F)) e Q := by
  refine for_inv (fun ds e => P ds.length e) h0 (fun d ds1 ds2 e hd p => ?_) (fun e p => fin e (by simpa using p))
  have hl : ds1.length < l.length := by
    have := congrArg List.length hd
    simp at this
    omega
  have hF : d = F l[ds1.length] := by
    have := congrArg (fun z => z[ds1.length]?) hd
    simp [List.getElem?_eq_getElem hl] at this
    exact this.symm
  subst hF
  have := st _ e hl p
  rw [List.length_append, List.length_singleton]
  exact this
theorem Zph {n : Nat} {f : Nat → Int} : bSum [.lst (vec n fun i => .int (f i))] = some (.d (.int (sumZ n f))) := by
  show (intsD (vec n fun i => .int (f i))).map _ = _
  unfold vec
  rw [intsD_map]
  rfl
end L2.S.W

set_option Elab.async false
set_option linter.all false
set_option maxRecDepth 100000
set_option maxHeartbeats 4000000
namespace L2.S.W
open L2.S
def krV (m : Nat) (u v : Nat → Rat) : Nat → Rat := fun k => u (k / m) * v (k % m)
def krM (m : Nat) (A B : Nat → Nat → Rat) : Nat → Nat → Rat := fun k l => A (k / m) (l / m) * B (k % m) (l % m)
end L2.S.W

set_option Elab.async false
set_option linter.all false
set_option maxRecDepth 100000
set_option maxHeartbeats 4000000
namespace L2.S.W
open L2.S
def sel : List Nat → Nat → List Nat
  | [], _ => []
  | a :: w, m => if m % 2 = 1 then a :: sel w (m / 2) else sel w (m / 2)
def uns : List Nat → Nat → List Nat
  | [], _ => []
  | a :: w, m => if m % 2 = 1 then uns w (m / 2) else a :: uns w (m / 2)
section
variable {n : Nat} {M : Nat → Nat → Nat → Rat} {r s c : Nat → Rat}
end
def idM : Nat → Nat → Rat := fun a b => if b = a then 1 else 0
def shM (m : Nat) (A B : Nat → Nat → Rat) : Nat → Nat → Rat := fun k l => krM m A idM k l + krM m idM B k l
end L2.S.W

set_option Elab.async false
set_option linter.all false
set_option maxRecDepth 100000
set_option maxHeartbeats 4000000
namespace L2.S.W
open L2.S
def cat (n : Nat) (u v : Nat → Rat) : Nat → Rat := fun i => if i < n then u i else v (i - n)
def blk (n : Nat) (A : Nat → Nat → Rat) (t s : Nat → Rat) (B : Nat → Nat → Rat) : Nat → Nat → Rat := fun i => if i < n then cat n (A i) (fun j => t i * s j) else cat n (fun _ => 0) (B (i - n))
section
variable {n : Nat} {M : Nat → Nat → Nat → Rat} {r s c : Nat → Rat} {y : Rat}
end
def thr (n : Nat) (A : Nat → Nat → Rat) (c : Nat → Rat) : Nat → Rat := fun i => sumN n fun j => A i j * c j
def prM (n : Nat) (c s : Nat → Rat) (A B : Nat → Nat → Rat) : Nat → Nat → Rat := blk n A (thr n A c) s B
end L2.S.W

set_option Elab.async false
set_option linter.all false
set_option maxRecDepth 100000
set_option maxHeartbeats 4000000
namespace L2.S.W
open L2.S
def dg (n : Nat) (A B : Nat → Nat → Rat) : Nat → Nat → Rat := fun i => if i < n then cat n (A i) (fun _ => 0) else cat n (fun _ => 0) (B (i - n))
def trM (M : Nat → Nat → Nat → Rat) : Nat → Nat → Nat → Rat := fun a i j => M a j i
end L2.S.W

set_option Elab.async false
set_option linter.all false
set_option maxRecDepth 100000
set_option maxHeartbeats 4000000
namespace L2.S.W
open L2.S
def leftV (g : Nat → Rat) (R : Nat → Nat → Rat) (p : Nat → Nat) (k : Nat) : Nat → Rat := fun j => g j + sumN k fun i => -(g (p i)) * R i j
section
variable {n w : Nat} {t0 : Nat → Nat → Rat} {s : Tab}
end
end L2.S.W

set_option Elab.async false
set_option linter.all false
set_option maxRecDepth 100000
set_option maxHeartbeats 4000000
namespace L2.S.W
open L2.S
theorem sorted_ext : ∀ {l m : List Nat}, l.Pairwise (· < ·) → m.Pairwise (· < ·) → (∀ x, x ∈ l ↔ x ∈ m) → l = m
  | [], [], _, _, _ => rfl
  | [], b :: m, _, _, h => absurd ((h b).mpr (List.mem_cons_self ..)) (by simp)
  | a :: l, [], _, _, h => absurd ((h a).mp (List.mem_cons_self ..)) (by simp)
  | a :: l, b :: m, hl, hm, h => by
    rw [List.pairwise_cons] at hl hm
    have e : a = b := by
      have h1 := (h a).mp (List.mem_cons_self ..)
      have h2 := (h b).mpr (List.mem_cons_self ..)
      rcases List.mem_cons.mp h1 with q | q
      · exact q
      · rcases List.mem_cons.mp h2 with q2 | q2
        · exact q2.symm
        · have := hl.1 b q2
          have := hm.1 a q
          omega
    subst e
    rw [sorted_ext hl.2 hm.2 fun x => ?_]
    constructor
    · intro hx
      have h1 := (h x).mp (List.mem_cons_of_mem _ hx)
      rcases List.mem_cons.mp h1 with q | q
      · have := hl.1 x hx; omega
      · exact q
    · intro hx
      have h1 := (h x).mpr (List.mem_cons_of_mem _ hx)
      rcases List.mem_cons.mp h1 with q | q
      · have := hm.1 x hx; omega
      · exact q
theorem sorted_filter {n : Nat} {p : Nat → Bool} : ((List.range n).filter p).Pairwise (· < ·) := List.pairwise_lt_range.sublist List.filter_sublist
def Per (w : List Nat) (p : Nat) : Prop := ∀ i, i + p < w.length → w[i]? = w[i + p]?
def Loc (w : List Nat) (c p : Nat) : Prop := ∀ i, i < c → c ≤ i + p → i + p < w.length → w[i]? = w[i + p]?
def Brd (w : List Nat) (m k : Nat) : Prop := k < m ∧ ∀ j, j < k → w[j]? = w[m - k + j]?
instance (w : List Nat) (p : Nat) : Decidable (Per w p) := decidable_of_iff (∀ i, i < w.length → (i + p < w.length → w[i]? = w[i + p]?)) ⟨fun h i hi => h i (by omega) hi, fun h i _ hi => h i hi⟩
instance (w : List Nat) (c p : Nat) : Decidable (Loc w c p) := decidable_of_iff (∀ i, i < c → (c ≤ i + p → i + p < w.length → w[i]? = w[i + p]?)) Iff.rfl
theorem Per.loc {w : List Nat} {p c : Nat} (h : Per w p) : Loc w c p := fun i _ _ h2 => h i h2
theorem per_len {w : List Nat} : Per w w.length := fun i h => by omega
section
variable {w : List Nat} {m k l : Nat}
theorem Brd.zero (h : 0 < m) : Brd w m 0 := ⟨h, fun j hj => by omega⟩
theorem Brd.trans (h1 : Brd w m k) (h2 : Brd w k l) : Brd w m l := ⟨by have := h1.1; have := h2.1; omega, fun j hj => by
  have a := h1.1
  have b := h2.1
  rw [h2.2 j hj, h1.2 (k - l + j) (by omega)]
  congr 1
  omega⟩
theorem Brd.inner (h1 : Brd w m k) (h2 : Brd w m l) (h : l < k) : Brd w k l := ⟨h, fun j hj => by
  have a := h1.1
  rw [h2.2 j hj, h1.2 (k - l + j) (by omega)]
  congr 1
  omega⟩
theorem Brd.succ : Brd w (m + 1) (k + 1) ↔ Brd w m k ∧ w[k]? = w[m]? := by
  constructor
  · intro h
    have a := h.1
    refine ⟨⟨by omega, fun j hj => ?_⟩, ?_⟩
    · rw [h.2 j (by omega)]
      congr 1
      omega
    · rw [h.2 k (by omega)]
      congr 1
      omega
  · rintro ⟨h, e⟩
    have a := h.1
    refine ⟨by omega, fun j hj => ?_⟩
    by_cases q : j = k
    · subst q
      rw [e]
      congr 1
      omega
    · rw [h.2 j (by omega)]
      congr 1
      omega
theorem brd_per (hk : k < w.length) : Brd w w.length k ↔ Per w (w.length - k) := by
  constructor
  · rintro ⟨_, h⟩ i hi
    rw [h i (by omega)]
    congr 1
    omega
  · intro h
    refine ⟨hk, fun j hj => ?_⟩
    rw [h j (by omega)]
    congr 1
    omega
theorem per_slice {p : Nat} : w.drop p = w.take (w.length - p) ↔ Per w p := by
  constructor
  · intro h i hi
    have := congrArg (fun l => l[i]?) h
    simp only [List.getElem?_drop, List.getElem?_take] at this
    rw [if_pos (by omega)] at this
    rw [← this, Nat.add_comm]
  · intro h
    refine List.ext_getElem? fun i => ?_
    rw [List.getElem?_drop, List.getElem?_take]
    by_cases hi : i < w.length - p
    · rw [if_pos hi, h i (by omega), Nat.add_comm]
    · rw [if_neg hi, List.getElem?_eq_none (by omega)]
end
abbrev flp (w : List Nat) : List Nat := w.map fun c => 200 - c
theorem flp_flp {w : List Nat} (h : ∀ c ∈ w, c ≤ 200) : flp (flp w) = w := by
  unfold flp
  rw [List.map_map]
  conv => rhs; rw [← List.map_id w]
  refine List.map_congr_left fun c hc => ?_
  have := h c hc
  show 200 - (200 - c) = c
  omega
theorem le_cancel : ∀ {z s t : List Nat}, z ++ s ≤ z ++ t → s ≤ t
  | [], _, _, h => h
  | a :: z, s, t, h => by
    rw [List.cons_append, List.cons_append, List.cons_le_cons_iff] at h
    rcases h with h | ⟨_, h⟩
    · omega
    · exact le_cancel h
theorem both_pre : ∀ {s t : List Nat}, (∀ c ∈ s, c ≤ 200) → (∀ c ∈ t, c ≤ 200) → s ≤ t → flp s ≤ flp t → ∃ y, t = s ++ y
  | [], t, _, _, _, _ => ⟨t, rfl⟩
  | a :: s, [], _, _, h, _ => by
    rw [List.le_nil] at h
    cases h
  | a :: s, b :: t, hs, ht, h, k => by
    rw [List.cons_le_cons_iff] at h
    rw [show flp (a :: s) = (200 - a) :: flp s from rfl, show flp (b :: t) = (200 - b) :: flp t from rfl, List.cons_le_cons_iff] at k
    have ha := hs a (List.mem_cons_self ..)
    have hb := ht b (List.mem_cons_self ..)
    have e : a = b ∧ s ≤ t ∧ flp s ≤ flp t := by
      rcases h with h | ⟨h1, h2⟩
      · rcases k with k | ⟨k1, k2⟩
        · omega
        · omega
      · rcases k with k | ⟨k1, k2⟩
        · omega
        · exact ⟨h1, h2, k2⟩
    obtain ⟨rfl, e1, e2⟩ := e
    obtain ⟨y, rfl⟩ := both_pre (fun c hc => hs c (List.mem_cons_of_mem _ hc)) (fun c hc => ht c (List.mem_cons_of_mem _ hc)) e1 e2
    exact ⟨y, rfl⟩
theorem max_suf (w : List Nat) : ∀ n, 0 < n → ∃ i, i < n ∧ ∀ j, j < n → w.drop j ≤ w.drop i
  | 0, h => by omega
  | 1, _ => ⟨0, by omega, fun j hj => by rw [show j = 0 by omega]; exact List.le_refl _⟩
  | n + 2, _ => by
    obtain ⟨i, hi, h⟩ := max_suf w (n + 1) (by omega)
    rcases List.le_total (w.drop (n + 1)) (w.drop i) with q | q
    · refine ⟨i, by omega, fun j hj => ?_⟩
      by_cases e : j = n + 1
      · rw [e]; exact q
      · exact h j (by omega)
    · refine ⟨n + 1, by omega, fun j hj => ?_⟩
      by_cases e : j = n + 1
      · rw [e]; exact List.le_refl _
      · exact List.le_trans (h j (by omega)) q
theorem piece {w : List Nat} {i j r : Nat} (h : ∀ t, t < r → w[i + t]? = w[j + t]?) : (w.drop i).take r = (w.drop j).take r := by
  refine List.ext_getElem? fun t => ?_
  rw [List.getElem?_take, List.getElem?_take]
  by_cases q : t < r
  · rw [if_pos q, if_pos q, List.getElem?_drop, List.getElem?_drop, h t q]
  · rw [if_neg q, if_neg q]
theorem cut_at {w : List Nat} {i r : Nat} : w.drop i = (w.drop i).take r ++ w.drop (i + r) := by
  rw [← List.drop_drop, List.take_append_drop]
theorem crit_core {w : List Nat} {i i' : Nat} (hw : ∀ c ∈ w, c ≤ 200) (hi : i < w.length) (hlt : i' < i) (h1 : ∀ j, j < w.length → w.drop j ≤ w.drop i) (h2 : ∀ j, j < w.length → flp (w.drop j) ≤ flp (w.drop i')) {r : Nat} (hr : 0 < r) (hL : Loc w i r) : i < r ∧ Per w r := by
  have h1' : ∀ j, w.drop j ≤ w.drop i := fun j => by
    by_cases q : j < w.length
    · exact h1 j q
    · rw [List.drop_eq_nil_of_le (by omega)]; exact List.nil_le _
  have stepA : i < r := by
    apply Classical.byContradiction
    intro hn
    by_cases hc : i + r ≤ w.length
    · have e1 : (w.drop (i - r)).take r = (w.drop i).take r := piece fun t ht => by
        rw [hL (i - r + t) (by omega) (by omega) (by omega)]
        congr 1
        omega
      have e2 := cut_at (w := w) (i := i - r) (r := r)
      rw [show i - r + r = i by omega, e1] at e2
      have e3 := cut_at (w := w) (i := i) (r := r)
      have k1 := h1' (i - r)
      rw [e2] at k1
      have k2 : (w.drop i).take r ++ w.drop i ≤ (w.drop i).take r ++ w.drop (i + r) := by rw [← e3]; exact k1
      have k3 := List.le_antisymm (le_cancel k2) (h1' (i + r))
      have := congrArg List.length k3
      rw [List.length_drop, List.length_drop] at this
      omega
    · have e1 : (w.drop (i - r)).take (w.length - i) = w.drop i := by
        have e := piece (w := w) (i := i - r) (j := i) (r := w.length - i) fun t ht => by
          rw [hL (i - r + t) (by omega) (by omega) (by omega)]
          congr 1
          omega
        rw [e, List.take_of_length_le (by rw [List.length_drop]; omega)]
      have e2 := cut_at (w := w) (i := i - r) (r := w.length - i)
      rw [e1] at e2
      have k1 := h1' (i - r)
      rw [e2] at k1
      have k2 : w.drop i ++ w.drop (i - r + (w.length - i)) ≤ w.drop i ++ [] := by rw [List.append_nil]; exact k1
      have k3 := le_cancel k2
      rw [List.le_nil] at k3
      have := congrArg List.length k3
      rw [List.length_drop, List.length_nil] at this
      omega
  refine ⟨stepA, fun t ht => ?_⟩
  by_cases ht2 : t < i
  · exact hL t ht2 (by omega) ht
  have hle : flp (w.drop (i + r)) ≤ flp (w.drop i) := by
    have e1 : (w.drop (i' + r)).take (i - i') = (w.drop i').take (i - i') := piece fun t ht => by
      rw [hL (i' + t) (by omega) (by omega) (by omega)]
      congr 1
      omega
    have e2 := cut_at (w := w) (i := i' + r) (r := i - i')
    rw [e1, show i' + r + (i - i') = i + r by omega] at e2
    have e3 := cut_at (w := w) (i := i') (r := i - i')
    rw [show i' + (i - i') = i by omega] at e3
    have k1 := h2 (i' + r) (by omega)
    rw [e2] at k1
    have k2 : flp ((w.drop i').take (i - i') ++ w.drop (i + r)) ≤ flp ((w.drop i').take (i - i') ++ w.drop i) := by rw [← e3]; exact k1
    unfold flp at k2
    rw [List.map_append, List.map_append] at k2
    exact le_cancel k2
  obtain ⟨y, e⟩ := both_pre (fun c hc => hw c (List.mem_of_mem_drop hc)) (fun c hc => hw c (List.mem_of_mem_drop hc)) (h1' (i + r)) hle
  have q := congrArg (fun l => l[t - i]?) e
  simp only [List.getElem?_drop] at q
  rw [List.getElem?_append_left (by rw [List.length_drop]; omega), List.getElem?_drop, show i + (t - i) = t by omega, show i + r + (t - i) = t + r by omega] at q
  exact q
theorem loc_flp {w : List Nat} {c r : Nat} (h : Loc w c r) : Loc (flp w) c r := fun i h1 h2 h3 => by
  rw [List.length_map] at h3
  rw [List.getElem?_map, List.getElem?_map, h i h1 h2 h3]
theorem per_flp {w : List Nat} {r : Nat} (hw : ∀ c ∈ w, c ≤ 200) (h : Per (flp w) r) : Per w r := fun i hi => by
  have := h i (by rw [List.length_map]; exact hi)
  rw [List.getElem?_map, List.getElem?_map, List.getElem?_eq_getElem (show i < w.length by omega), List.getElem?_eq_getElem hi] at this
  rw [List.getElem?_eq_getElem (show i < w.length by omega), List.getElem?_eq_getElem hi]
  have a := hw _ (List.getElem_mem (show i < w.length by omega))
  have b := hw _ (List.getElem_mem hi)
  simp at this
  congr 1
  omega
theorem crit {w : List Nat} (hw : ∀ c ∈ w, c ≤ 200) (hn : 2 ≤ w.length) (h1 : ¬ Per w 1) : ∃ c, 0 < c ∧ c < w.length ∧ ∀ r, 0 < r → Loc w c r → c < r ∧ Per w r := by
  obtain ⟨i, hi, m1⟩ := max_suf w w.length (by omega)
  obtain ⟨j, hj, m2⟩ := max_suf (flp w) w.length (by omega)
  have m2' : ∀ k, k < w.length → flp (w.drop k) ≤ flp (w.drop j) := fun k hk => by
    have := m2 k hk
    unfold flp at this ⊢
    rw [List.map_drop, List.map_drop]
    exact this
  rcases Nat.lt_trichotomy i j with q | q | q
  · refine ⟨j, by omega, hj, fun r hr hL => ?_⟩
    have hf : ∀ c ∈ flp w, c ≤ 200 := fun c hc => by
      obtain ⟨x, hx, rfl⟩ := List.mem_map.mp hc
      show 200 - x ≤ 200
      omega
    have hl : (flp w).length = w.length := List.length_map ..
    obtain ⟨a, b⟩ := crit_core (w := flp w) (i := j) (i' := i) hf (by rw [hl]; exact hj) q (fun k hk => m2 k (by rw [← hl]; exact hk)) (fun k hk => by
      have := m1 k (by rw [← hl]; exact hk)
      unfold flp
      rw [← List.map_drop, ← List.map_drop]
      have f1 := flp_flp (w := w.drop k) fun c hc => hw c (List.mem_of_mem_drop hc)
      have f2 := flp_flp (w := w.drop i) fun c hc => hw c (List.mem_of_mem_drop hc)
      unfold flp at f1 f2
      rw [f1, f2]
      exact this) hr (loc_flp hL)
    exact ⟨a, per_flp hw b⟩
  · exfalso
    apply h1
    subst q
    have key : ∀ k (hk : k < w.length), w[k] = w[i] := fun k hk => by
      have a := m1 k hk
      have b := m2' k hk
      rw [List.drop_eq_getElem_cons hk, List.drop_eq_getElem_cons hi] at a b
      rw [List.cons_le_cons_iff] at a
      rw [show flp (w[k] :: w.drop (k + 1)) = (200 - w[k]) :: flp (w.drop (k + 1)) from rfl, show flp (w[i] :: w.drop (i + 1)) = (200 - w[i]) :: flp (w.drop (i + 1)) from rfl, List.cons_le_cons_iff] at b
      have c1 := hw _ (List.getElem_mem hk)
      have c2 := hw _ (List.getElem_mem hi)
      rcases a with a | ⟨a, _⟩
      · rcases b with b | ⟨b, _⟩
        · omega
        · omega
      · exact a
    intro t ht
    rw [List.getElem?_eq_getElem (show t < w.length by omega), List.getElem?_eq_getElem ht, key t (by omega), key (t + 1) ht]
  · exact ⟨i, by omega, hi, fun r hr hL => crit_core hw hi q m1 m2' hr hL⟩
end L2.S.W

set_option Elab.async false
set_option linter.all false
set_option maxRecDepth 100000
set_option maxHeartbeats 8000000
namespace L2.S.W
open PySem PySem.Spec PyProof.Rows L2 L2.S
noncomputable section
abbrev PP : Program := PySem.Challenge.pw_seriesroads_k49_whole_borders_and_critic
def top (i : Nat) : Stmt := PP.main.body.getD i (.Pass ⟨0, 0, 0, 0⟩)
abbrev s_is_integer : Stmt := top 5
def N_is_integer : List Str := ["value"]
abbrev s_is_word : Stmt := top 7
def N_is_word : List Str := ["value", "c"]
abbrev s_check_word : Stmt := top 10
def N_check_word : List Str := ["word"]
abbrev s_border_row : Stmt := top 12
def N_border_row : List Str := ["word", "found", "k", "i", "c"]
abbrev s_border_lengths : Stmt := top 13
def N_border_lengths : List Str := ["word", "row", "found", "k"]
abbrev s_periods_of : Stmt := top 14
def N_periods_of : List Str := ["word", "p"]
abbrev s_periods : Stmt := top 15
def N_periods : List Str := ["word"]
abbrev s_repeats_about : Stmt := top 18
def N_repeats_about : List Str := ["word", "at", "p", "first", "last", "i"]
abbrev s_local_at : Stmt := top 17
def N_local_at : List Str := ["word", "at", "p"]
abbrev s_local_period : Stmt := top 16
def N_local_period : List Str := ["word", "at"]
abbrev s_critical_cuts : Stmt := top 19
def N_critical_cuts : List Str := ["word", "least", "at"]
abbrev s_law_state : Stmt := top 21
def N_law_state : List Str := ["script", "seed", "total", "cell"]
abbrev s_law_take : Stmt := top 22
def N_law_take : List Str := ["state", "m", "value"]
abbrev s_law_told_by : Stmt := top 23
def N_law_told_by : List Str := ["act", "given", "error"]
abbrev s_law_is_int : Stmt := top 24
def N_law_is_int : List Str := ["value", "due"]
abbrev s_law_are_ints : Stmt := top 25
def N_law_are_ints : List Str := ["value", "due", "k"]
abbrev s_law_abc : Stmt := top 26
def N_law_abc : List Str := ["state", "k", "n", "turn"]
abbrev s_law_periods : Stmt := top 27
def N_law_periods : List Str := ["w", "p", "i"]
abbrev s_law_local : Stmt := top 28
def N_law_local : List Str := ["w", "at", "p", "i"]
abbrev s_law_asked : Stmt := top 29
def N_law_asked : List Str := ["w", "due", "borders", "n", "p", "locals_at", "at", "critical"]
abbrev s_law : Stmt := top 30
def N_law : List Str := ["script", "state", "turn", "w", "kind", "bad", "act"]
def g_is_integer : Env' → RS := sRet (cAnd (cIsi [(0, false), (1, true), (2, true), (3, false), (4, false), (5, false)] (cV 0)) (cNot (cIsi [(0, false), (1, true), (2, false), (3, false), (4, false), (5, false)] (cV 0))))
def φ_is_integer : Fn := fnF g_is_integer 1 1
def g_is_word : Env' → RS := sRet (cAnd (cIsi [(0, false), (1, false), (2, false), (3, true), (4, false), (5, false)] (cV 0)) (cBi bAll (cAd (cLc (iD (cV 0)) [1] (gN 1) (cYes) (cCh (pLe) (pLe) (cK (.str [97])) (cV 1) (cK (.str [122])))) (cA0))))
def φ_is_word : Fn := fnF g_is_word 2 1
def g_check_word : Env' → RS := sIf (cOrT (cNotT (cTr (cCall φ_is_word [] (cAd (cV 0) (cA0))))) (cTr (cOp (pGt) (cBi bLen (cAd (cV 0) (cA0))) (cK (.int 60))))) (sRaise 1) (sNx)
def φ_check_word : Fn := fnF g_check_word 1 1
def g_border_row : Env' → RS := sSeq (sParL 1 2 (cLst (cA0)) (0)) (
sSeq (sFor (iEq2 (cAd (cV 0) (cA0))) (gT 2 (gC (gN 3) (gC (gN 4) (g0)))) (sSeq (sIf (cTr (cOp (pGt) (cV 3) (cK (.int 0)))) (sSeq (sWh fuelE (cAndT (cTr (cOp (pGt) (cV 2) (cK (.int 0)))) (cTr (cOp (pEq true) (cIx (cV 0) (cV 2)) (cV 4)))) (sSet 2 (cIxO 1 (cOp pSubI (cV 2) (cK (.int 1)))))) (
sIf (cTr (cOp (pEq false) (cIx (cV 0) (cV 2)) (cV 4))) (sAug 2 (fun i j => i + j) (cK (.int 1))) (sNx))) (sNx)) (
sDrop (cApp 1 (cV 2))))) (
sRetO 1))
def φ_border_row : Fn := fnF g_border_row 5 1
def g_border_lengths : Env' → RS := sSeq (sDrop (cCall φ_check_word [] (cAd (cV 0) (cA0)))) (
sSeq (sIf (cTr (cOp (pEq false) (cV 0) (cK (.str [])))) (sRet (cTup (cA0))) (sNx)) (
sSeq (sParR 1 2 (cCall φ_border_row [] (cAd (cV 0) (cA0))) (cLst (cA0))) (
sSeq (sSet 3 (cIx (cV 1) (cNeg (cK (.int 1))))) (
sSeq (sWh fuelE (cTr (cOp (pGt) (cV 3) (cK (.int 0)))) (sSeq (sDrop (cApp 2 (cV 3))) (
sSet 3 (cIx (cV 1) (cOp pSubI (cV 3) (cK (.int 1))))))) (
sRet (cBi bTup (cAd (cOp pAdd (cLst (cAd (cK (.int 0)) (cA0))) (cRv2 (cV 2))) (cA0))))))))
def φ_border_lengths : Fn := fnF g_border_lengths 4 1
def g_periods_of : Env' → RS := sRet (cLc (iR2 (cAd (cK (.int 1)) (cAd (cOp pAdd (cBi bLen (cAd (cV 0) (cA0))) (cK (.int 1))) (cA0)))) [1] (gN 1) (cTr (cOp (pEq false) (cSl (cV 0) (oI (cV 1)) (o0)) (cSl (cV 0) (o0) (oI (cOp pSubI (cBi bLen (cAd (cV 0) (cA0))) (cV 1)))))) (cV 1))
def φ_periods_of : Fn := fnF g_periods_of 2 1
def g_periods : Env' → RS := sSeq (sDrop (cCall φ_check_word [] (cAd (cV 0) (cA0)))) (
sRet (cBi bTup (cAd (cCall φ_periods_of [] (cAd (cV 0) (cA0))) (cA0))))
def φ_periods : Fn := fnF g_periods 1 1
def g_repeats_about : Env' → RS := sSeq (sPar2 3 4 (cAd (cBi bMax2 (cAd (cK (.int 0)) (cAd (cOp pSubI (cV 1) (cV 2)) (cA0)))) (cAd (cBi bMin2 (cAd (cV 1) (cAd (cOp pSubI (cBi bLen (cAd (cV 0) (cA0))) (cV 2)) (cA0)))) (cA0)))) (
sRet (cBi bAll (cAd (cLc (iR2 (cAd (cV 3) (cAd (cV 4) (cA0)))) [5] (gN 5) (cYes) (cOp (pEq false) (cIx (cV 0) (cV 5)) (cIx (cV 0) (cOp pAdd (cV 5) (cV 2))))) (cA0))))
def φ_repeats_about : Fn := fnF g_repeats_about 6 3
def g_local_at : Env' → RS := sSeq (sSet 2 (cK (.int 1))) (
sSeq (sWh fuelE (cNotT (cTr (cCall φ_repeats_about [] (cAd (cV 0) (cAd (cV 1) (cAd (cV 2) (cA0))))))) (sAug 2 (fun i j => i + j) (cK (.int 1)))) (
sRet (cV 2)))
def φ_local_at : Fn := fnF g_local_at 3 2
def g_local_period : Env' → RS := sSeq (sDrop (cCall φ_check_word [] (cAd (cV 0) (cA0)))) (
sSeq (sIf (cOrT (cNotT (cTr (cCall φ_is_integer [] (cAd (cV 1) (cA0))))) (cNotT (cTr (cCh (pLt) (pLt) (cK (.int 0)) (cV 1) (cBi bLen (cAd (cV 0) (cA0))))))) (sRaise 1) (sNx)) (
sRet (cCall φ_local_at [] (cAd (cV 0) (cAd (cV 1) (cA0))))))
def φ_local_period : Fn := fnF g_local_period 2 2
def g_critical_cuts : Env' → RS := sSeq (sDrop (cCall φ_check_word [] (cAd (cV 0) (cA0)))) (
sSeq (sIf (cTr (cOp (pLt) (cBi bLen (cAd (cV 0) (cA0))) (cK (.int 2)))) (sRet (cTup (cA0))) (sNx)) (
sSeq (sSet 1 (cIx (cCall φ_periods_of [] (cAd (cV 0) (cA0))) (cK (.int 0)))) (
sRet (cBi bTup (cAd (cLc (iR2 (cAd (cK (.int 1)) (cAd (cBi bLen (cAd (cV 0) (cA0))) (cA0)))) [2] (gN 2) (cTr (cOp (pEq false) (cCall φ_local_at [] (cAd (cV 0) (cAd (cV 2) (cA0)))) (cV 1))) (cV 2)) (cA0))))))
def φ_critical_cuts : Fn := fnF g_critical_cuts 3 1
def g_law_state : Env' → RS := sSeq (sSet 1 (cK (.int 0))) (
sSeq (sSet 2 (cK (.int 1))) (
sSeq (sFor (iD (cSl (cV 0) (o0) (oI (cK (.int 63))))) (gN 3) (sSeq (sSet 1 (cOp pAdd (cOp pMul (cV 1) (cK (.int 1000003))) (cBi bAbs (cAd (cV 3) (cA0))))) (
sSet 2 (cOp pModI (cBi bInt (cAd (cOp pAdd (cOp pMul (cV 2) (cK (.int 48271))) (cV 3)) (cA0))) (cK (.int 2147483647)))))) (
sRet (cLst (cAd (cV 1) (cAd (cV 2) (cA0)))))))
def φ_law_state : Fn := fnF g_law_state 4 1
def g_law_take : Env' → RS := sSeq (sIf (cTr (cOp (pGt) (cIxO 0 (cK (.int 0))) (cK (.int 0)))) (sSeq (sSet 2 (cOp pModI (cBi bInt (cAd (cIxO 0 (cK (.int 0))) (cA0))) (cV 1))) (
sSeq (sSub 0 (cOp pDivG (cIxO 0 (cK (.int 0))) (cV 1)) (cK (.int 0))) (
sRet (cV 2)))) (sNx)) (
sSeq (sSub 0 (cOp pModI (cBi bInt (cAd (cOp pAdd (cOp pMul (cIxO 0 (cK (.int 1))) (cK (.int 48271))) (cK (.int 11))) (cA0))) (cK (.int 2147483647))) (cK (.int 1))) (
sRet (cOp pModI (cBi bInt (cAd (cOp pDivG (cIxO 0 (cK (.int 1))) (cK (.int 7))) (cA0))) (cV 1))))
def φ_law_take : Fn := fnF g_law_take 3 2
def g_law_told_by : Env' → RS := sTryM [([(0, false), (1, true), (2, false)], none, fun xp => sRet (cTup (cAd (cK (.str [109, 97, 108, 102, 111, 114, 109, 101, 100])) (cAd (cK .non) (cA0))))), ([(0, false), (1, false), (2, true)], (some 2), fun xp => sRet (cTup (cAd (cK (.str [114, 101, 102, 117, 115, 101, 100])) (cAd (cXf xp 2 [(2, 0)]) (cA0)))))] (sSeq (sIf (cTr (cOp (pEq false) (cBi bLen (cAd (cV 1) (cA0))) (cK (.int 1)))) (sRet (cTup (cAd (cK (.str [116, 111, 108, 100])) (cAd (cCallL 0 [] ((0, φ_periods, []) :: ((1, φ_border_lengths, []) :: ((2, φ_critical_cuts, []) :: []))) (cAd (cIx (cV 1) (cK (.int 0))) (cA0))) (cA0))))) (sNx)) (
sSeq (sIf (cTr (cOp (pEq false) (cBi bLen (cAd (cV 1) (cA0))) (cK (.int 2)))) (sRet (cTup (cAd (cK (.str [116, 111, 108, 100])) (cAd (cCallL 0 [] ((3, φ_local_period, []) :: []) (cAd (cIx (cV 1) (cK (.int 0))) (cAd (cIx (cV 1) (cK (.int 1))) (cA0)))) (cA0))))) (sNx)) (
sSeq (sIf (cTr (cOp (pEq false) (cBi bLen (cAd (cV 1) (cA0))) (cK (.int 3)))) (sRet (cTup (cAd (cK (.str [116, 111, 108, 100])) (cAd (cCallL 0 [] [] (cAd (cIx (cV 1) (cK (.int 0))) (cAd (cIx (cV 1) (cK (.int 1))) (cAd (cIx (cV 1) (cK (.int 2))) (cA0))))) (cA0))))) (sNx)) (
sRet (cTup (cAd (cK (.str [116, 111, 108, 100])) (cAd (cCallL 0 [] [] (cAd (cIx (cV 1) (cK (.int 0))) (cAd (cIx (cV 1) (cK (.int 1))) (cAd (cIx (cV 1) (cK (.int 2))) (cAd (cIx (cV 1) (cK (.int 3))) (cA0)))))) (cA0))))))))
def φ_law_told_by : Fn := fnF g_law_told_by 3 2
def g_law_is_int : Env' → RS := sRet (cAnd (cIsi [(0, false), (1, true), (2, true), (3, false), (4, false), (5, false)] (cV 0)) (cAnd (cNot (cIsi [(0, false), (1, true), (2, false), (3, false), (4, false), (5, false)] (cV 0))) (cOp (pEq false) (cV 0) (cV 1))))
def φ_law_is_int : Fn := fnF g_law_is_int 2 2
def g_law_are_ints : Env' → RS := sRet (cAnd (cIsi [(0, false), (1, false), (2, false), (3, false), (4, true), (5, false)] (cV 0)) (cAnd (cOp (pEq false) (cBi bLen (cAd (cV 0) (cA0))) (cBi bLen (cAd (cV 1) (cA0)))) (cBi bAll (cAd (cLc (iR1 (cAd (cBi bLen (cAd (cV 1) (cA0))) (cA0))) [2] (gN 2) (cYes) (cCall φ_law_is_int [] (cAd (cIx (cV 0) (cV 2)) (cAd (cIx (cV 1) (cV 2)) (cA0))))) (cA0)))))
def φ_law_are_ints : Fn := fnF g_law_are_ints 3 2
def g_law_abc : Env' → RS := sRet (cMs qJoin (cK (.str [])) (cAd (cLc (iR1 (cAd (cV 2) (cA0))) [3] (gN 3) (cYes) (cIx (cK (.str [97, 98, 99, 100])) (cCall φ_law_take [] (cAs 0 (cAd (cV 1) (cA0)))))) (cA0)))
def φ_law_abc : Fn := fnF g_law_abc 4 3
def g_law_periods : Env' → RS := sRet (cLc (iR2 (cAd (cK (.int 1)) (cAd (cOp pAdd (cBi bLen (cAd (cV 0) (cA0))) (cK (.int 1))) (cA0)))) [1] (gN 1) (cTr (cBi bAll (cAd (cLc (iR1 (cAd (cOp pSubI (cBi bLen (cAd (cV 0) (cA0))) (cV 1)) (cA0))) [2] (gN 2) (cYes) (cOp (pEq false) (cIx (cV 0) (cV 2)) (cIx (cV 0) (cOp pAdd (cV 2) (cV 1))))) (cA0)))) (cV 1))
def φ_law_periods : Fn := fnF g_law_periods 3 1
def g_law_local : Env' → RS := sSeq (sSet 2 (cK (.int 1))) (
sSeq (sWh fuelE (cNotT (cTr (cBi bAll (cAd (cLc (iR1 (cAd (cOp pSubI (cBi bLen (cAd (cV 0) (cA0))) (cV 2)) (cA0))) [3] (gN 3) (cAndT (cTr (cOp (pLt) (cV 3) (cV 1))) (cTr (cOp (pGe) (cOp pAdd (cV 3) (cV 2)) (cV 1)))) (cOp (pEq false) (cIx (cV 0) (cV 3)) (cIx (cV 0) (cOp pAdd (cV 3) (cV 2))))) (cA0))))) (sSet 2 (cOp pAdd (cV 2) (cK (.int 1))))) (
sRet (cV 2)))
def φ_law_local : Fn := fnF g_law_local 4 2
def g_law_asked : Env' → RS := sSeq (sSet 1 (cCall φ_law_periods [] (cAd (cV 0) (cA0)))) (
sSeq (sSet 2 (cLc (iR1 (cAd (cBi bLen (cAd (cV 0) (cA0))) (cA0))) [3] (gN 3) (cTr (cOp (pEq false) (cSl (cV 0) (o0) (oI (cV 3))) (cSl (cV 0) (oI (cOp pSubI (cBi bLen (cAd (cV 0) (cA0))) (cV 3))) (o0)))) (cV 3))) (
sSeq (sIf (cOrT (cNotT (cTr (cCall φ_law_are_ints [] (cAd (cCall φ_periods [] (cAd (cV 0) (cA0))) (cAd (cV 1) (cA0)))))) (cNotT (cTr (cCall φ_law_are_ints [] (cAd (cCall φ_border_lengths [] (cAd (cV 0) (cA0))) (cAd (cV 2) (cA0))))))) (sRet (cK (.bl false))) (sNx)) (
sSeq (sIf (cTr (cOp (pEq true) (cLc (iD (cRv2 (cV 1))) [4] (gN 4) (cYes) (cOp pSubI (cBi bLen (cAd (cV 0) (cA0))) (cV 4))) (cV 2))) (sRet (cK (.bl false))) (sNx)) (
sSeq (sSet 5 (cLc (iR2 (cAd (cK (.int 1)) (cAd (cBi bLen (cAd (cV 0) (cA0))) (cA0)))) [6] (gN 6) (cYes) (cCall φ_law_local [] (cAd (cV 0) (cAd (cV 6) (cA0)))))) (
sSeq (sFor (iR2 (cAd (cK (.int 1)) (cAd (cBi bLen (cAd (cV 0) (cA0))) (cA0)))) (gN 6) (sIf (cOrT (cNotT (cTr (cCall φ_law_is_int [] (cAd (cCall φ_local_period [] (cAd (cV 0) (cAd (cV 6) (cA0)))) (cAd (cIx (cV 5) (cOp pSubI (cV 6) (cK (.int 1)))) (cA0)))))) (cTr (cOp (pGt) (cIx (cV 5) (cOp pSubI (cV 6) (cK (.int 1)))) (cIx (cV 1) (cK (.int 0)))))) (sRet (cK (.bl false))) (sNx))) (
sSeq (sSet 7 (cLc (iR2 (cAd (cK (.int 1)) (cAd (cBi bLen (cAd (cV 0) (cA0))) (cA0)))) [6] (gN 6) (cTr (cOp (pEq false) (cIx (cV 5) (cOp pSubI (cV 6) (cK (.int 1)))) (cIx (cV 1) (cK (.int 0))))) (cV 6))) (
sSeq (sIf (cNotT (cTr (cCall φ_law_are_ints [] (cAd (cCall φ_critical_cuts [] (cAd (cV 0) (cA0))) (cAd (cV 7) (cA0)))))) (sRet (cK (.bl false))) (sNx)) (
sRet (cOr (cOp (pLt) (cBi bLen (cAd (cV 0) (cA0))) (cK (.int 2))) (cAnd (cOp (pGt) (cBi bLen (cAd (cV 7) (cA0))) (cK (.int 0))) (cOp (pLe) (cIx (cV 7) (cK (.int 0))) (cBi bMax2 (cAd (cK (.int 1)) (cAd (cOp pSubI (cIx (cV 1) (cK (.int 0))) (cK (.int 1))) (cA0)))))))))))))))
def φ_law_asked : Fn := fnF g_law_asked 8 1
def g_law : Env' → RS := sSeq (sSetO 1 (cCall φ_law_state [] (cAd (cV 0) (cA0)))) (
sSeq (sFor (iR1 (cAd (cK (.int 6)) (cA0))) (gN 2) (sSeq (sSet 3 (cCall φ_law_abc [] (cAs 1 (cAd (cOp pAdd (cK (.int 1)) (cCall φ_law_take [] (cAs 1 (cAd (cK (.int 3)) (cA0))))) (cAd (cCall φ_law_take [] (cAs 1 (cAd (cK (.int 13)) (cA0)))) (cA0)))))) (
sSeq (sSet 4 (cCall φ_law_take [] (cAs 1 (cAd (cK (.int 4)) (cA0))))) (
sSeq (sIf (cTr (cOp (pEq false) (cV 4) (cK (.int 0)))) (sSet 3 (cSl (cOp pMul (cSl (cV 3) (o0) (oI (cK (.int 5)))) (cK (.int 4))) (o0) (oI (cCall φ_law_take [] (cAs 1 (cAd (cK (.int 15)) (cA0))))))) (sNx)) (
sSeq (sIf (cTr (cOp (pEq false) (cV 4) (cK (.int 1)))) (sSet 3 (cOp pAdd (cSl (cV 3) (o0) (oI (cK (.int 6)))) (cRv2 (cSl (cV 3) (o0) (oI (cK (.int 6))))))) (sNx)) (
sSeq (sIf (cTr (cOp (pEq false) (cV 4) (cK (.int 2)))) (sSet 3 (cOp pAdd (cOp pAdd (cSl (cV 3) (o0) (oI (cK (.int 4)))) (cCall φ_law_abc [] (cAs 1 (cAd (cK (.int 2)) (cAd (cCall φ_law_take [] (cAs 1 (cAd (cK (.int 5)) (cA0)))) (cA0)))))) (cSl (cV 3) (o0) (oI (cK (.int 4)))))) (sNx)) (
sIf (cNotT (cTr (cCall φ_law_asked [] (cAd (cV 3) (cA0))))) (sRet (cK (.bl false))) (sNx)))))))) (
sSeq (sIf (cNotT (cTr (cCall φ_law_asked [] (cAd (cSl (cOp pMul (cCall φ_law_abc [] (cAs 1 (cAd (cK (.int 2)) (cAd (cK (.int 7)) (cA0))))) (cK (.int 9))) (o0) (oI (cK (.int 60)))) (cA0))))) (sRet (cK (.bl false))) (sNx)) (
sSeq (sFor (iD (cLst (cAd (cK .non) (cAd (cK (.int 5)) (cAd (cK (.str [65])) (cAd (cK (.str [97, 45, 98])) (cAd (cTup (cAd (cK (.str [97])) (cA0))) (cAd (cOp pMul (cK (.str [97])) (cK (.int 61))) (cA0))))))))) (gN 5) (sSeq (sFor (iD (cTup (cAd (cK (.fn 1)) (cAd (cK (.fn 0)) (cAd (cK (.fn 2)) (cA0)))))) (gN 6) (sIf (cTr (cOp (pEq true) (cIx (cCall φ_law_told_by [] (cAd (cV 6) (cAd (cTup (cAd (cV 5) (cA0))) (cA0)))) (cK (.int 0))) (cK (.str [109, 97, 108, 102, 111, 114, 109, 101, 100])))) (sRet (cK (.bl false))) (sNx))) (
sIf (cTr (cOp (pEq true) (cIx (cCall φ_law_told_by [] (cAd (cK (.fn 3)) (cAd (cTup (cAd (cV 5) (cAd (cK (.int 1)) (cA0)))) (cA0)))) (cK (.int 0))) (cK (.str [109, 97, 108, 102, 111, 114, 109, 101, 100])))) (sRet (cK (.bl false))) (sNx)))) (
sRet (cBi bAll (cAd (cLc (iD (cLst (cAd (cK (.int 0)) (cAd (cK (.int 4)) (cAd (cNeg (cK (.int 1))) (cAd (cK .non) (cAd (cK (.bl true)) (cAd (cK (.str [49])) (cA0))))))))) [5] (gN 5) (cYes) (cOp (pEq false) (cIx (cCall φ_law_told_by [] (cAd (cK (.fn 3)) (cAd (cTup (cAd (cK (.str [97, 98, 97, 98])) (cAd (cV 5) (cA0)))) (cA0)))) (cK (.int 0))) (cK (.str [109, 97, 108, 102, 111, 114, 109, 101, 100])))) (cA0)))))))
def φ_law : Fn := fnF g_law 7 1
theorem run_is_integer {x0 : SV} {r : RF} (h : wp g_is_integer [x0] (fun rs => endF [x0] rs = r)) : φ_is_integer [x0] = r := fn_at rfl rfl h
theorem run_is_word {x0 : SV} {r : RF} (h : wp g_is_word [x0, .un] (fun rs => endF [x0] rs = r)) : φ_is_word [x0] = r := fn_at rfl rfl h
theorem run_check_word {x0 : SV} {r : RF} (h : wp g_check_word [x0] (fun rs => endF [x0] rs = r)) : φ_check_word [x0] = r := fn_at rfl rfl h
theorem run_border_row {x0 : SV} {r : RF} (h : wp g_border_row [x0, .un, .un, .un, .un] (fun rs => endF [x0] rs = r)) : φ_border_row [x0] = r := fn_at rfl rfl h
theorem run_border_lengths {x0 : SV} {r : RF} (h : wp g_border_lengths [x0, .un, .un, .un] (fun rs => endF [x0] rs = r)) : φ_border_lengths [x0] = r := fn_at rfl rfl h
theorem run_periods_of {x0 : SV} {r : RF} (h : wp g_periods_of [x0, .un] (fun rs => endF [x0] rs = r)) : φ_periods_of [x0] = r := fn_at rfl rfl h
theorem run_periods {x0 : SV} {r : RF} (h : wp g_periods [x0] (fun rs => endF [x0] rs = r)) : φ_periods [x0] = r := fn_at rfl rfl h
theorem run_repeats_about {x0 x1 x2 : SV} {r : RF} (h : wp g_repeats_about [x0, x1, x2, .un, .un, .un] (fun rs => endF [x0, x1, x2] rs = r)) : φ_repeats_about [x0, x1, x2] = r := fn_at rfl rfl h
theorem run_local_at {x0 x1 : SV} {r : RF} (h : wp g_local_at [x0, x1, .un] (fun rs => endF [x0, x1] rs = r)) : φ_local_at [x0, x1] = r := fn_at rfl rfl h
theorem run_local_period {x0 x1 : SV} {r : RF} (h : wp g_local_period [x0, x1] (fun rs => endF [x0, x1] rs = r)) : φ_local_period [x0, x1] = r := fn_at rfl rfl h
theorem run_critical_cuts {x0 : SV} {r : RF} (h : wp g_critical_cuts [x0, .un, .un] (fun rs => endF [x0] rs = r)) : φ_critical_cuts [x0] = r := fn_at rfl rfl h
theorem runP_law_state {x0 : SV} {P : RF → Prop} (h : wp g_law_state [x0, .un, .un, .un] (fun rs => P (endF [x0] rs))) : P (φ_law_state [x0]) := fn_atP rfl rfl h
theorem run_law_take {x0 x1 : SV} {r : RF} (h : wp g_law_take [x0, x1, .un] (fun rs => endF [x0, x1] rs = r)) : φ_law_take [x0, x1] = r := fn_at rfl rfl h
theorem run_law_told_by {x0 x1 : SV} {r : RF} (h : wp g_law_told_by [x0, x1, .un] (fun rs => endF [x0, x1] rs = r)) : φ_law_told_by [x0, x1] = r := fn_at rfl rfl h
theorem run_law_is_int {x0 x1 : SV} {r : RF} (h : wp g_law_is_int [x0, x1] (fun rs => endF [x0, x1] rs = r)) : φ_law_is_int [x0, x1] = r := fn_at rfl rfl h
theorem run_law_are_ints {x0 x1 : SV} {r : RF} (h : wp g_law_are_ints [x0, x1, .un] (fun rs => endF [x0, x1] rs = r)) : φ_law_are_ints [x0, x1] = r := fn_at rfl rfl h
theorem runP_law_abc {x0 x1 x2 : SV} {P : RF → Prop} (h : wp g_law_abc [x0, x1, x2, .un] (fun rs => P (endF [x0, x1, x2] rs))) : P (φ_law_abc [x0, x1, x2]) := fn_atP rfl rfl h
theorem run_law_periods {x0 : SV} {r : RF} (h : wp g_law_periods [x0, .un, .un] (fun rs => endF [x0] rs = r)) : φ_law_periods [x0] = r := fn_at rfl rfl h
theorem run_law_local {x0 x1 : SV} {r : RF} (h : wp g_law_local [x0, x1, .un, .un] (fun rs => endF [x0, x1] rs = r)) : φ_law_local [x0, x1] = r := fn_at rfl rfl h
theorem run_law_asked {x0 : SV} {r : RF} (h : wp g_law_asked [x0, .un, .un, .un, .un, .un, .un, .un] (fun rs => endF [x0] rs = r)) : φ_law_asked [x0] = r := fn_at rfl rfl h
theorem run_law {x0 : SV} {r : RF} (h : wp g_law [x0, .un, .un, .un, .un, .un, .un] (fun rs => endF [x0] rs = r)) : φ_law [x0] = r := fn_at rfl rfl h
end
end L2.S.W

set_option Elab.async false
set_option linter.all false
set_option maxRecDepth 100000
set_option maxHeartbeats 8000000
namespace L2.S.W
open PySem PySem.Spec PyProof.Rows L2 L2.S
structure Ad where
  (is_integer is_word check_word border_row border_lengths periods_of periods repeats_about local_at local_period critical_cuts law_state law_take law_told_by law_is_int law_are_ints law_abc law_periods law_local law_asked law Fault Malformed Refused : Addr)
def TT (K : PySem.W.Frag) (a : Ad) : Tb where
  K := K
  cl := fun n => match n with  | _ => 0
  fl := fun n => match n with  | _ => []
  ec := fun n => match n with | 0 => a.Fault | 1 => a.Malformed | 2 => a.Refused | _ => 0
  ef := fun n => match n with | 0 => [] | 1 => [] | 2 => ["reason"] | _ => []
  fn := fun n => match n with | 0 => a.periods | 1 => a.border_lengths | 2 => a.critical_cuts | 3 => a.local_period | _ => 0
theorem zz {K : PySem.W.Frag} {mg : Str → Option Value} {n : Str} (h : ∃ h : Heap, K.In h ∧ h.Ns mainGlobals mg) (e : PySem.W.nsIn K mainGlobals n = some none) : mg n = none := let ⟨_, X, G⟩ := h; ns_none X G e
structure Facts (K : PySem.W.Frag) (mg : Str → Option Value) (a : Ad) : Prop where
  hG : ∃ h : Heap, K.In h ∧ h.Ns mainGlobals mg
  sk : SeerK K
  m_is_integer : mg "is_integer" = some (.ref a.is_integer)
  F_is_integer : ∃ fd, FunD K "is_integer" "is_integer" (defArgs s_is_integer) (defBody s_is_integer) (defScope s_is_integer) [] [] a.is_integer fd
  k_is_integer : PySem.W.keepIn K (.ref a.is_integer) = true
  m_is_word : mg "is_word" = some (.ref a.is_word)
  F_is_word : ∃ fd, FunD K "is_word" "is_word" (defArgs s_is_word) (defBody s_is_word) (defScope s_is_word) [] [] a.is_word fd
  k_is_word : PySem.W.keepIn K (.ref a.is_word) = true
  m_check_word : mg "check_word" = some (.ref a.check_word)
  F_check_word : ∃ fd, FunD K "check_word" "check_word" (defArgs s_check_word) (defBody s_check_word) (defScope s_check_word) [] [] a.check_word fd
  k_check_word : PySem.W.keepIn K (.ref a.check_word) = true
  m_border_row : mg "border_row" = some (.ref a.border_row)
  F_border_row : ∃ fd, FunD K "border_row" "border_row" (defArgs s_border_row) (defBody s_border_row) (defScope s_border_row) [] [] a.border_row fd
  k_border_row : PySem.W.keepIn K (.ref a.border_row) = true
  m_border_lengths : mg "border_lengths" = some (.ref a.border_lengths)
  F_border_lengths : ∃ fd, FunD K "border_lengths" "border_lengths" (defArgs s_border_lengths) (defBody s_border_lengths) (defScope s_border_lengths) [] [] a.border_lengths fd
  k_border_lengths : PySem.W.keepIn K (.ref a.border_lengths) = true
  m_periods_of : mg "periods_of" = some (.ref a.periods_of)
  F_periods_of : ∃ fd, FunD K "periods_of" "periods_of" (defArgs s_periods_of) (defBody s_periods_of) (defScope s_periods_of) [] [] a.periods_of fd
  k_periods_of : PySem.W.keepIn K (.ref a.periods_of) = true
  m_periods : mg "periods" = some (.ref a.periods)
  F_periods : ∃ fd, FunD K "periods" "periods" (defArgs s_periods) (defBody s_periods) (defScope s_periods) [] [] a.periods fd
  k_periods : PySem.W.keepIn K (.ref a.periods) = true
  m_repeats_about : mg "repeats_about" = some (.ref a.repeats_about)
  F_repeats_about : ∃ fd, FunD K "repeats_about" "repeats_about" (defArgs s_repeats_about) (defBody s_repeats_about) (defScope s_repeats_about) [] [] a.repeats_about fd
  k_repeats_about : PySem.W.keepIn K (.ref a.repeats_about) = true
  m_local_at : mg "local_at" = some (.ref a.local_at)
  F_local_at : ∃ fd, FunD K "local_at" "local_at" (defArgs s_local_at) (defBody s_local_at) (defScope s_local_at) [] [] a.local_at fd
  k_local_at : PySem.W.keepIn K (.ref a.local_at) = true
  m_local_period : mg "local_period" = some (.ref a.local_period)
  F_local_period : ∃ fd, FunD K "local_period" "local_period" (defArgs s_local_period) (defBody s_local_period) (defScope s_local_period) [] [] a.local_period fd
  k_local_period : PySem.W.keepIn K (.ref a.local_period) = true
  m_critical_cuts : mg "critical_cuts" = some (.ref a.critical_cuts)
  F_critical_cuts : ∃ fd, FunD K "critical_cuts" "critical_cuts" (defArgs s_critical_cuts) (defBody s_critical_cuts) (defScope s_critical_cuts) [] [] a.critical_cuts fd
  k_critical_cuts : PySem.W.keepIn K (.ref a.critical_cuts) = true
  m__law_state : mg "_law_state" = some (.ref a.law_state)
  F_law_state : ∃ fd, FunD K "_law_state" "_law_state" (defArgs s_law_state) (defBody s_law_state) (defScope s_law_state) [] [] a.law_state fd
  k_law_state : PySem.W.keepIn K (.ref a.law_state) = true
  m__law_take : mg "_law_take" = some (.ref a.law_take)
  F_law_take : ∃ fd, FunD K "_law_take" "_law_take" (defArgs s_law_take) (defBody s_law_take) (defScope s_law_take) [] [] a.law_take fd
  k_law_take : PySem.W.keepIn K (.ref a.law_take) = true
  m__law_told_by : mg "_law_told_by" = some (.ref a.law_told_by)
  F_law_told_by : ∃ fd, FunD K "_law_told_by" "_law_told_by" (defArgs s_law_told_by) (defBody s_law_told_by) (defScope s_law_told_by) [] [] a.law_told_by fd
  k_law_told_by : PySem.W.keepIn K (.ref a.law_told_by) = true
  m__law_is_int : mg "_law_is_int" = some (.ref a.law_is_int)
  F_law_is_int : ∃ fd, FunD K "_law_is_int" "_law_is_int" (defArgs s_law_is_int) (defBody s_law_is_int) (defScope s_law_is_int) [] [] a.law_is_int fd
  k_law_is_int : PySem.W.keepIn K (.ref a.law_is_int) = true
  m__law_are_ints : mg "_law_are_ints" = some (.ref a.law_are_ints)
  F_law_are_ints : ∃ fd, FunD K "_law_are_ints" "_law_are_ints" (defArgs s_law_are_ints) (defBody s_law_are_ints) (defScope s_law_are_ints) [] [] a.law_are_ints fd
  k_law_are_ints : PySem.W.keepIn K (.ref a.law_are_ints) = true
  m__law_abc : mg "_law_abc" = some (.ref a.law_abc)
  F_law_abc : ∃ fd, FunD K "_law_abc" "_law_abc" (defArgs s_law_abc) (defBody s_law_abc) (defScope s_law_abc) [] [] a.law_abc fd
  k_law_abc : PySem.W.keepIn K (.ref a.law_abc) = true
  m__law_periods : mg "_law_periods" = some (.ref a.law_periods)
  F_law_periods : ∃ fd, FunD K "_law_periods" "_law_periods" (defArgs s_law_periods) (defBody s_law_periods) (defScope s_law_periods) [] [] a.law_periods fd
  k_law_periods : PySem.W.keepIn K (.ref a.law_periods) = true
  m__law_local : mg "_law_local" = some (.ref a.law_local)
  F_law_local : ∃ fd, FunD K "_law_local" "_law_local" (defArgs s_law_local) (defBody s_law_local) (defScope s_law_local) [] [] a.law_local fd
  k_law_local : PySem.W.keepIn K (.ref a.law_local) = true
  m__law_asked : mg "_law_asked" = some (.ref a.law_asked)
  F_law_asked : ∃ fd, FunD K "_law_asked" "_law_asked" (defArgs s_law_asked) (defBody s_law_asked) (defScope s_law_asked) [] [] a.law_asked fd
  k_law_asked : PySem.W.keepIn K (.ref a.law_asked) = true
  m_law : mg "law" = some (.ref a.law)
  F_law : ∃ fd, FunD K "law" "law" (defArgs s_law) (defBody s_law) (defScope s_law) [] [] a.law fd
  k_law : PySem.W.keepIn K (.ref a.law) = true
  m_Fault : mg "Fault" = some (.ref a.Fault)
  m_Malformed : mg "Malformed" = some (.ref a.Malformed)
  m_Refused : mg "Refused" = some (.ref a.Refused)
  m_MOST_LONG : ∃ u, mg "MOST_LONG" = some u ∧ RelV (.int 60) u
  xi_Malformed : PySem.W.excIn K a.Malformed [.type "ValueError", .type "Exception", .type "BaseException", .type "object"] "ValueError.__new__" = true
  kx_Malformed : PySem.W.keepIn K (.ref a.Malformed) = true
  sx_Malformed : PySem.W.subIn K (.ref a.Malformed) (.type "BaseException") = some true
  tx_Malformed : PySem.W.typeIn K (.ref a.Malformed) = some (.type "type")
  z_isinstance : PySem.W.nsIn K mainGlobals "isinstance" = some none
  z_int : PySem.W.nsIn K mainGlobals "int" = some none
  z_bool : PySem.W.nsIn K mainGlobals "bool" = some none
  z_str : PySem.W.nsIn K mainGlobals "str" = some none
  z_all : PySem.W.nsIn K mainGlobals "all" = some none
  z_len : PySem.W.nsIn K mainGlobals "len" = some none
  z_enumerate : PySem.W.nsIn K mainGlobals "enumerate" = some none
  z_tuple : PySem.W.nsIn K mainGlobals "tuple" = some none
  z_range : PySem.W.nsIn K mainGlobals "range" = some none
  z_min : PySem.W.nsIn K mainGlobals "min" = some none
  z_max : PySem.W.nsIn K mainGlobals "max" = some none
  z_abs : PySem.W.nsIn K mainGlobals "abs" = some none
  xg_Refused : PySem.W.findIn K (.ref a.Refused) "__getattribute__" = some (some (.builtin "BaseException.__getattribute__"))
  xk_Refused : PySem.W.findIn K (.ref a.Refused) "__getattr__" = some none
  xs_Refused : PySem.W.subIn K (.ref a.Refused) (.type "BaseException") = some true
  xd_Refused : PySem.W.hasDictIn K a.Refused = true
  na_Refused_reason : PySem.W.findIn K (.ref a.Refused) "reason" = some none
  em_Refused_Refused : PySem.W.exmOne K (.ref a.Refused) (.ref a.Refused) = some true
  em_Malformed_Refused : PySem.W.exmOne K (.ref a.Malformed) (.ref a.Refused) = some false
  em_Fault_Refused : PySem.W.exmOne K (.ref a.Fault) (.ref a.Refused) = some false
  em_Refused_Malformed : PySem.W.exmOne K (.ref a.Refused) (.ref a.Malformed) = some false
  em_Malformed_Malformed : PySem.W.exmOne K (.ref a.Malformed) (.ref a.Malformed) = some true
  em_Fault_Malformed : PySem.W.exmOne K (.ref a.Fault) (.ref a.Malformed) = some false
section
variable {K : PySem.W.Frag} {mg : Str → Option Value} {a : Ad} {w : World} {base : Heap}
theorem ex_Malformed {X : Cx} (H : Facts X.K mg a) : ExcF X (TT X.K a) 1 := ⟨⟨_, _, _, _, PySem.F.excBase_ValueError, H.xi_Malformed⟩, H.kx_Malformed, raises_own H.sx_Malformed H.tx_Malformed, rfl⟩
theorem S_is_integer : FnScope N_is_integer ["value"] (defScope s_is_integer) := ⟨rfl, rfl, rfl, by decide +kernel, rfl, by decide +kernel, by decide +kernel⟩
theorem o_is_integer (H : Facts K mg a) : ∃ fd, FunD K "is_integer" "is_integer" (defArgs s_is_integer) (defBody s_is_integer) (defScope s_is_integer) [] [] a.is_integer fd ∧ FnOk PP w K mg base (L2.CX PP w) 2 a.is_integer fd ["value"] (sp (TT K a) φ_is_integer) := by
  obtain ⟨fd, F⟩ := H.F_is_integer
  refine ⟨fd, F, fn_d F S_is_integer fun cdv A outer s H0 E hr => ?_⟩
  exact (sss_one (ss_ret (se_and (se_isi rfl (isi_c (n := 0) (kit_tys (cs := ["int"]) (by decide +kernel)) (isi_c (n := 1) (kit_tys (cs := ["int"]) (by decide +kernel)) (isi_c (n := 2) (kit_tys (cs := ["int"]) (by decide +kernel)) (isi_c (n := 3) (kit_tys (cs := ["int"]) (by decide +kernel)) (isi_c (n := 4) (kit_tys (cs := ["int"]) (by decide +kernel)) (isi_c (n := 5) (kit_tys (cs := ["int"]) (by decide +kernel)) isi_0)))))) (.ty _) (zz H.hG H.z_isinstance) (se_v 0) (pe_bltn (v := .ty "int") rfl (zz H.hG H.z_int) (by decide +kernel : bootBuiltins "int" = some (.type "int")) rfl)) (se_one (se_not (se_isi rfl (isi_c (n := 0) (kit_tys (cs := ["bool"]) (by decide +kernel)) (isi_c (n := 1) (kit_tys (cs := ["bool"]) (by decide +kernel)) (isi_c (n := 2) (kit_tys (cs := ["bool"]) (by decide +kernel)) (isi_c (n := 3) (kit_tys (cs := ["bool"]) (by decide +kernel)) (isi_c (n := 4) (kit_tys (cs := ["bool"]) (by decide +kernel)) (isi_c (n := 5) (kit_tys (cs := ["bool"]) (by decide +kernel)) isi_0)))))) (.ty _) (zz H.hG H.z_isinstance) (se_v 0) (pe_bltn (v := .ty "bool") rfl (zz H.hG H.z_bool) (by decide +kernel : bootBuiltins "bool" = some (.type "bool")) rfl)))))))
theorem c_is_integer (H : Facts K mg a) : FnC PP w K mg base (TT K a) 2 φ_is_integer [] a.is_integer := by
  obtain ⟨fd, F, ok⟩ := o_is_integer (w := w) (base := base) H
  exact fnc_all F ok fun _ _ _ _ _ _ us h => match us, h with | [_], _ => rfl
theorem S_is_word : FnScope N_is_word ["value"] (defScope s_is_word) := ⟨rfl, rfl, rfl, by decide +kernel, rfl, by decide +kernel, by decide +kernel⟩
theorem o_is_word (H : Facts K mg a) : ∃ fd, FunD K "is_word" "is_word" (defArgs s_is_word) (defBody s_is_word) (defScope s_is_word) [] [] a.is_word fd ∧ FnOk PP w K mg base (L2.CX PP w) 2 a.is_word fd ["value"] (sp (TT K a) φ_is_word) := by
  obtain ⟨fd, F⟩ := H.F_is_word
  refine ⟨fd, F, fn_d F S_is_word fun cdv A outer s H0 E hr => ?_⟩
  exact (sss_one (ss_ret (se_and (se_isi rfl (isi_c (n := 0) (kit_tys (cs := ["str"]) (by decide +kernel)) (isi_c (n := 1) (kit_tys (cs := ["str"]) (by decide +kernel)) (isi_c (n := 2) (kit_tys (cs := ["str"]) (by decide +kernel)) (isi_c (n := 3) (kit_tys (cs := ["str"]) (by decide +kernel)) (isi_c (n := 4) (kit_tys (cs := ["str"]) (by decide +kernel)) (isi_c (n := 5) (kit_tys (cs := ["str"]) (by decide +kernel)) isi_0)))))) (.ty _) (zz H.hG H.z_isinstance) (se_v 0) (pe_bltn (v := .ty "str") rfl (zz H.hG H.z_str) (by decide +kernel : bootBuiltins "str" = some (.type "str")) rfl)) (se_one (se_bif (b_all rfl) (zz H.hG H.z_all) (sa_d (se_lc rfl S_is_word.nd (si_d rfl (se_v 0)) (blkOk_by (N := N_is_word) (own := [("c", 1)]) (sc := defScope s_is_word) (by decide +kernel)) (fun _ _ _ _ _ => (sg_n (i := 1) S_is_word.nd)) (fun _ _ _ _ _ => sts_0) (fun _ _ _ _ _ => (se_ch o_le o_le se_str (se_v 1) se_str))) sa_0))))))
theorem c_is_word (H : Facts K mg a) : FnC PP w K mg base (TT K a) 2 φ_is_word [] a.is_word := by
  obtain ⟨fd, F, ok⟩ := o_is_word (w := w) (base := base) H
  exact fnc_all F ok fun _ _ _ _ _ _ us h => match us, h with | [_], _ => rfl
theorem S_check_word : FnScope N_check_word ["word"] (defScope s_check_word) := ⟨rfl, rfl, rfl, by decide +kernel, rfl, by decide +kernel, by decide +kernel⟩
theorem o_check_word (H : Facts K mg a) : ∃ fd, FunD K "check_word" "check_word" (defArgs s_check_word) (defBody s_check_word) (defScope s_check_word) [] [] a.check_word fd ∧ FnOk PP w K mg base (L2.CX PP w) 5 a.check_word fd ["word"] (sp (TT K a) φ_check_word) := by
  obtain ⟨fd, F⟩ := H.F_check_word
  refine ⟨fd, F, fn_d F S_check_word fun cdv A outer s H0 E hr => ?_⟩
  exact (sss_one (ss_if (SW.st (sw_or (st_not (st_tr rfl (se_call (c_is_word H) H.m_is_word (hr.mono (show 2 ≤ 4 by decide)) (takes_of rfl rfl rfl rfl) (sa_d (se_v 0) sa_0)))) (sw_or1 (st_cmp rfl o_gt (se_bif (b_len rfl) (zz H.hG H.z_len) (sa_d (se_v 0) sa_0)) (se_glob (v := .int 60) H.m_MOST_LONG.choose_spec.1 H.m_MOST_LONG.choose_spec.2 (fun _ => (show Rep _ _ (.int 60) (.int 60) from .int _))) (nomark _))))) (sss_one (ss_raise rfl (takes_of rfl rfl rfl rfl) (ex_Malformed H) H.m_Malformed)) sss_nil))
theorem c_check_word (H : Facts K mg a) : FnC PP w K mg base (TT K a) 5 φ_check_word [] a.check_word := by
  obtain ⟨fd, F, ok⟩ := o_check_word (w := w) (base := base) H
  exact fnc_all F ok fun _ _ _ _ _ _ us h => match us, h with | [_], _ => rfl
theorem S_border_row : FnScope N_border_row ["word"] (defScope s_border_row) := ⟨rfl, rfl, rfl, by decide +kernel, rfl, by decide +kernel, by decide +kernel⟩
theorem o_border_row (H : Facts K mg a) : ∃ fd, FunD K "border_row" "border_row" (defArgs s_border_row) (defBody s_border_row) (defScope s_border_row) [] [] a.border_row fd ∧ FnOk PP w K mg base (L2.CX PP w) 2 a.border_row fd ["word"] (sp (TT K a) φ_border_row) := by
  obtain ⟨fd, F⟩ := H.F_border_row
  refine ⟨fd, F, fn_d F S_border_row fun cdv A outer s H0 E hr => ?_⟩
  exact (sss_cons (ss_parL (i := 1) (j := 2) rfl S_border_row.nd (se_lst sa_0))
(sss_cons (ss_for (passes_of rfl) rfl (si_enq2 rfl (zz H.hG H.z_enumerate) (sa_d (se_v 0) sa_0)) (sg_t rfl rfl (sgs_c (sg_n (i := 3) S_border_row.nd) (sgs_c (sg_n (i := 4) S_border_row.nd) sgs_0))) (sss_cons (ss_if (st_cmp rfl o_gt (se_v 3) se_int (nomark _)) (sss_cons (ss_while fuelE (passes_of rfl) (SW.st (sw_and (st_cmp rfl o_gt (se_v 2) se_int (nomark _)) (sw_and1 (st_cmp rfl (o_ne rfl hr.units) (se_ix rfl (se_v 0) (se_v 2)) (se_v 4) (nomark _))))) (sss_one (ss_set (i := 2) S_border_row.nd (se_ixO 1 (se_bin o_subI (se_v 2) se_int)))))
(sss_one (ss_if (st_cmp rfl (o_eq rfl hr.units) (se_ix rfl (se_v 0) (se_v 2)) (se_v 4) (nomark _)) (sss_one (ss_aug (i := 2) S_border_row.nd ip_add se_int)) sss_nil))) sss_nil)
(sss_one (ss_expr (se_app 1 (se_v 2))))))
(sss_one (ss_retO 1))))
theorem c_border_row (H : Facts K mg a) : FnC PP w K mg base (TT K a) 2 φ_border_row [] a.border_row := by
  obtain ⟨fd, F, ok⟩ := o_border_row (w := w) (base := base) H
  exact fnc_all F ok fun _ _ _ _ _ _ us h => match us, h with | [_], _ => rfl
theorem S_border_lengths : FnScope N_border_lengths ["word"] (defScope s_border_lengths) := ⟨rfl, rfl, rfl, by decide +kernel, rfl, by decide +kernel, by decide +kernel⟩
theorem o_border_lengths (H : Facts K mg a) : ∃ fd, FunD K "border_lengths" "border_lengths" (defArgs s_border_lengths) (defBody s_border_lengths) (defScope s_border_lengths) [] [] a.border_lengths fd ∧ FnOk PP w K mg base (L2.CX PP w) 8 a.border_lengths fd ["word"] (sp (TT K a) φ_border_lengths) := by
  obtain ⟨fd, F⟩ := H.F_border_lengths
  refine ⟨fd, F, fn_d F S_border_lengths fun cdv A outer s H0 E hr => ?_⟩
  exact (sss_cons (ss_expr (se_call (c_check_word H) H.m_check_word (hr.mono (show 5 ≤ 7 by decide)) (takes_of rfl rfl rfl rfl) (sa_d (se_v 0) sa_0)))
(sss_cons (ss_if (st_cmp rfl (o_eq rfl hr.units) (se_v 0) se_str (nomark _)) (sss_one (ss_ret (se_tup sa_0))) sss_nil)
(sss_cons (ss_parR (i := 1) (j := 2) rfl S_border_lengths.nd (se_call (c_border_row H) H.m_border_row (hr.mono (show 2 ≤ 7 by decide)) (takes_of rfl rfl rfl rfl) (sa_d (se_v 0) sa_0)) (se_lst sa_0))
(sss_cons (ss_set (i := 3) S_border_lengths.nd (se_ix rfl (se_v 1) (se_neg se_int)))
(sss_cons (ss_while fuelE (passes_of rfl) (st_cmp rfl o_gt (se_v 3) se_int (nomark _)) (sss_cons (ss_expr (se_app 2 (se_v 3)))
(sss_one (ss_set (i := 3) S_border_lengths.nd (se_ix rfl (se_v 1) (se_bin o_subI (se_v 3) se_int))))))
(sss_one (ss_ret (se_bit (b_tup rfl) (zz H.hG H.z_tuple) (sa_d (se_bin (o_add rfl) (se_lst (sa_d se_int sa_0)) (se_rv2 rfl (se_v 2))) sa_0)))))))))
theorem c_border_lengths (H : Facts K mg a) : FnC PP w K mg base (TT K a) 8 φ_border_lengths [] a.border_lengths := by
  obtain ⟨fd, F, ok⟩ := o_border_lengths (w := w) (base := base) H
  exact fnc_all F ok fun _ _ _ _ _ _ us h => match us, h with | [_], _ => rfl
theorem S_periods_of : FnScope N_periods_of ["word"] (defScope s_periods_of) := ⟨rfl, rfl, rfl, by decide +kernel, rfl, by decide +kernel, by decide +kernel⟩
theorem o_periods_of (H : Facts K mg a) : ∃ fd, FunD K "periods_of" "periods_of" (defArgs s_periods_of) (defBody s_periods_of) (defScope s_periods_of) [] [] a.periods_of fd ∧ FnOk PP w K mg base (L2.CX PP w) 2 a.periods_of fd ["word"] (sp (TT K a) φ_periods_of) := by
  obtain ⟨fd, F⟩ := H.F_periods_of
  refine ⟨fd, F, fn_d F S_periods_of fun cdv A outer s H0 E hr => ?_⟩
  exact (sss_one (ss_ret (se_lc rfl S_periods_of.nd (si_r2 rfl (zz H.hG H.z_range) (sa_d se_int (sa_d (se_bin (o_add rfl) (se_bif (b_len rfl) (zz H.hG H.z_len) (sa_d (se_v 0) sa_0)) se_int) sa_0))) (blkOk_by (N := N_periods_of) (own := [("p", 1)]) (sc := defScope s_periods_of) (by decide +kernel)) (fun _ _ _ _ _ => (sg_n (i := 1) S_periods_of.nd)) (fun _ _ _ _ _ => (sts_1 (st_cmp rfl (o_eq rfl hr.units) (se_sl rfl (se_v 0) (so_i (se_v 1)) so_0) (se_sl rfl (se_v 0) so_0 (so_i (se_bin o_subI (se_bif (b_len rfl) (zz H.hG H.z_len) (sa_d (se_v 0) sa_0)) (se_v 1)))) (nomark _)))) (fun _ _ _ _ _ => (se_v 1)))))
theorem c_periods_of (H : Facts K mg a) : FnC PP w K mg base (TT K a) 2 φ_periods_of [] a.periods_of := by
  obtain ⟨fd, F, ok⟩ := o_periods_of (w := w) (base := base) H
  exact fnc_all F ok fun _ _ _ _ _ _ us h => match us, h with | [_], _ => rfl
theorem S_periods : FnScope N_periods ["word"] (defScope s_periods) := ⟨rfl, rfl, rfl, by decide +kernel, rfl, by decide +kernel, by decide +kernel⟩
theorem o_periods (H : Facts K mg a) : ∃ fd, FunD K "periods" "periods" (defArgs s_periods) (defBody s_periods) (defScope s_periods) [] [] a.periods fd ∧ FnOk PP w K mg base (L2.CX PP w) 8 a.periods fd ["word"] (sp (TT K a) φ_periods) := by
  obtain ⟨fd, F⟩ := H.F_periods
  refine ⟨fd, F, fn_d F S_periods fun cdv A outer s H0 E hr => ?_⟩
  exact (sss_cons (ss_expr (se_call (c_check_word H) H.m_check_word (hr.mono (show 5 ≤ 7 by decide)) (takes_of rfl rfl rfl rfl) (sa_d (se_v 0) sa_0)))
(sss_one (ss_ret (se_bit (b_tup rfl) (zz H.hG H.z_tuple) (sa_d (se_call (c_periods_of H) H.m_periods_of (hr.mono (show 2 ≤ 7 by decide)) (takes_of rfl rfl rfl rfl) (sa_d (se_v 0) sa_0)) sa_0)))))
theorem c_periods (H : Facts K mg a) : FnC PP w K mg base (TT K a) 8 φ_periods [] a.periods := by
  obtain ⟨fd, F, ok⟩ := o_periods (w := w) (base := base) H
  exact fnc_all F ok fun _ _ _ _ _ _ us h => match us, h with | [_], _ => rfl
theorem S_repeats_about : FnScope N_repeats_about ["word", "at", "p"] (defScope s_repeats_about) := ⟨rfl, rfl, rfl, by decide +kernel, rfl, by decide +kernel, by decide +kernel⟩
theorem o_repeats_about (H : Facts K mg a) : ∃ fd, FunD K "repeats_about" "repeats_about" (defArgs s_repeats_about) (defBody s_repeats_about) (defScope s_repeats_about) [] [] a.repeats_about fd ∧ FnOk PP w K mg base (L2.CX PP w) 2 a.repeats_about fd ["word", "at", "p"] (sp (TT K a) φ_repeats_about) := by
  obtain ⟨fd, F⟩ := H.F_repeats_about
  refine ⟨fd, F, fn_d F S_repeats_about fun cdv A outer s H0 E hr => ?_⟩
  exact (sss_cons (ss_par2 (i := 3) (j := 4) rfl S_repeats_about.nd (sa_d (se_bif (b_max2 rfl) (zz H.hG H.z_max) (sa_d se_int (sa_d (se_bin o_subI (se_v 1) (se_v 2)) sa_0))) (sa_d (se_bif (b_min2 rfl) (zz H.hG H.z_min) (sa_d (se_v 1) (sa_d (se_bin o_subI (se_bif (b_len rfl) (zz H.hG H.z_len) (sa_d (se_v 0) sa_0)) (se_v 2)) sa_0))) sa_0)))
(sss_one (ss_ret (se_bif (b_all rfl) (zz H.hG H.z_all) (sa_d (se_lc rfl S_repeats_about.nd (si_r2 rfl (zz H.hG H.z_range) (sa_d (se_v 3) (sa_d (se_v 4) sa_0))) (blkOk_by (N := N_repeats_about) (own := [("i", 5)]) (sc := defScope s_repeats_about) (by decide +kernel)) (fun _ _ _ _ _ => (sg_n (i := 5) S_repeats_about.nd)) (fun _ _ _ _ _ => sts_0) (fun _ _ _ _ _ => (se_cmp (o_eq rfl hr.units) (se_ix rfl (se_v 0) (se_v 5)) (se_ix rfl (se_v 0) (se_bin (o_add rfl) (se_v 5) (se_v 2))) (nomark _)))) sa_0)))))
theorem c_repeats_about (H : Facts K mg a) : FnC PP w K mg base (TT K a) 2 φ_repeats_about [] a.repeats_about := by
  obtain ⟨fd, F, ok⟩ := o_repeats_about (w := w) (base := base) H
  exact fnc_all F ok fun _ _ _ _ _ _ us h => match us, h with | [_, _, _], _ => rfl
theorem S_local_at : FnScope N_local_at ["word", "at"] (defScope s_local_at) := ⟨rfl, rfl, rfl, by decide +kernel, rfl, by decide +kernel, by decide +kernel⟩
theorem o_local_at (H : Facts K mg a) : ∃ fd, FunD K "local_at" "local_at" (defArgs s_local_at) (defBody s_local_at) (defScope s_local_at) [] [] a.local_at fd ∧ FnOk PP w K mg base (L2.CX PP w) 5 a.local_at fd ["word", "at"] (sp (TT K a) φ_local_at) := by
  obtain ⟨fd, F⟩ := H.F_local_at
  refine ⟨fd, F, fn_d F S_local_at fun cdv A outer s H0 E hr => ?_⟩
  exact (sss_cons (ss_set (i := 2) S_local_at.nd se_int)
(sss_cons (ss_while fuelE (passes_of rfl) (st_not (st_tr rfl (se_call (c_repeats_about H) H.m_repeats_about (hr.mono (show 2 ≤ 4 by decide)) (takes_of rfl rfl rfl rfl) (sa_d (se_v 0) (sa_d (se_v 1) (sa_d (se_v 2) sa_0)))))) (sss_one (ss_aug (i := 2) S_local_at.nd ip_add se_int)))
(sss_one (ss_ret (se_v 2)))))
theorem c_local_at (H : Facts K mg a) : FnC PP w K mg base (TT K a) 5 φ_local_at [] a.local_at := by
  obtain ⟨fd, F, ok⟩ := o_local_at (w := w) (base := base) H
  exact fnc_all F ok fun _ _ _ _ _ _ us h => match us, h with | [_, _], _ => rfl
theorem S_local_period : FnScope N_local_period ["word", "at"] (defScope s_local_period) := ⟨rfl, rfl, rfl, by decide +kernel, rfl, by decide +kernel, by decide +kernel⟩
theorem o_local_period (H : Facts K mg a) : ∃ fd, FunD K "local_period" "local_period" (defArgs s_local_period) (defBody s_local_period) (defScope s_local_period) [] [] a.local_period fd ∧ FnOk PP w K mg base (L2.CX PP w) 8 a.local_period fd ["word", "at"] (sp (TT K a) φ_local_period) := by
  obtain ⟨fd, F⟩ := H.F_local_period
  refine ⟨fd, F, fn_d F S_local_period fun cdv A outer s H0 E hr => ?_⟩
  exact (sss_cons (ss_expr (se_call (c_check_word H) H.m_check_word (hr.mono (show 5 ≤ 7 by decide)) (takes_of rfl rfl rfl rfl) (sa_d (se_v 0) sa_0)))
(sss_cons (ss_if (SW.st (sw_or (st_not (st_tr rfl (se_call (c_is_integer H) H.m_is_integer (hr.mono (show 2 ≤ 7 by decide)) (takes_of rfl rfl rfl rfl) (sa_d (se_v 1) sa_0)))) (sw_or1 (st_not (st_ch rfl o_lt o_lt se_int (se_v 1) (se_bif (b_len rfl) (zz H.hG H.z_len) (sa_d (se_v 0) sa_0))))))) (sss_one (ss_raise rfl (takes_of rfl rfl rfl rfl) (ex_Malformed H) H.m_Malformed)) sss_nil)
(sss_one (ss_ret (se_call (c_local_at H) H.m_local_at (hr.mono (show 5 ≤ 7 by decide)) (takes_of rfl rfl rfl rfl) (sa_d (se_v 0) (sa_d (se_v 1) sa_0)))))))
theorem c_local_period (H : Facts K mg a) : FnC PP w K mg base (TT K a) 8 φ_local_period [] a.local_period := by
  obtain ⟨fd, F, ok⟩ := o_local_period (w := w) (base := base) H
  exact fnc_all F ok fun _ _ _ _ _ _ us h => match us, h with | [_, _], _ => rfl
theorem S_critical_cuts : FnScope N_critical_cuts ["word"] (defScope s_critical_cuts) := ⟨rfl, rfl, rfl, by decide +kernel, rfl, by decide +kernel, by decide +kernel⟩
theorem o_critical_cuts (H : Facts K mg a) : ∃ fd, FunD K "critical_cuts" "critical_cuts" (defArgs s_critical_cuts) (defBody s_critical_cuts) (defScope s_critical_cuts) [] [] a.critical_cuts fd ∧ FnOk PP w K mg base (L2.CX PP w) 8 a.critical_cuts fd ["word"] (sp (TT K a) φ_critical_cuts) := by
  obtain ⟨fd, F⟩ := H.F_critical_cuts
  refine ⟨fd, F, fn_d F S_critical_cuts fun cdv A outer s H0 E hr => ?_⟩
  exact (sss_cons (ss_expr (se_call (c_check_word H) H.m_check_word (hr.mono (show 5 ≤ 7 by decide)) (takes_of rfl rfl rfl rfl) (sa_d (se_v 0) sa_0)))
(sss_cons (ss_if (st_cmp rfl o_lt (se_bif (b_len rfl) (zz H.hG H.z_len) (sa_d (se_v 0) sa_0)) se_int (nomark _)) (sss_one (ss_ret (se_tup sa_0))) sss_nil)
(sss_cons (ss_set (i := 1) S_critical_cuts.nd (se_ix rfl (se_call (c_periods_of H) H.m_periods_of (hr.mono (show 2 ≤ 7 by decide)) (takes_of rfl rfl rfl rfl) (sa_d (se_v 0) sa_0)) se_int))
(sss_one (ss_ret (se_bit (b_tup rfl) (zz H.hG H.z_tuple) (sa_d (se_lc rfl S_critical_cuts.nd (si_r2 rfl (zz H.hG H.z_range) (sa_d se_int (sa_d (se_bif (b_len rfl) (zz H.hG H.z_len) (sa_d (se_v 0) sa_0)) sa_0))) (blkOk_by (N := N_critical_cuts) (own := [("at", 2)]) (sc := defScope s_critical_cuts) (by decide +kernel)) (fun _ _ _ _ _ => (sg_n (i := 2) S_critical_cuts.nd)) (fun _ _ _ _ _ => (sts_1 (st_cmp rfl (o_eq rfl hr.units) (se_call (c_local_at H) H.m_local_at (hr.mono (show 5 ≤ 7 by decide)) takes0 (sa_d (se_v 0) (sa_d (se_v 2) sa_0))) (se_v 1) (nomark _)))) (fun _ _ _ _ _ => (se_v 2))) sa_0)))))))
theorem c_critical_cuts (H : Facts K mg a) : FnC PP w K mg base (TT K a) 8 φ_critical_cuts [] a.critical_cuts := by
  obtain ⟨fd, F, ok⟩ := o_critical_cuts (w := w) (base := base) H
  exact fnc_all F ok fun _ _ _ _ _ _ us h => match us, h with | [_], _ => rfl
theorem S_law_state : FnScope N_law_state ["script"] (defScope s_law_state) := ⟨rfl, rfl, rfl, by decide +kernel, rfl, by decide +kernel, by decide +kernel⟩
theorem o_law_state (H : Facts K mg a) : ∃ fd, FunD K "_law_state" "_law_state" (defArgs s_law_state) (defBody s_law_state) (defScope s_law_state) [] [] a.law_state fd ∧ FnOk PP w K mg base (L2.CX PP w) 2 a.law_state fd ["script"] (sp (TT K a) φ_law_state) := by
  obtain ⟨fd, F⟩ := H.F_law_state
  refine ⟨fd, F, fn_d F S_law_state fun cdv A outer s H0 E hr => ?_⟩
  exact (sss_cons (ss_set (i := 1) S_law_state.nd se_int)
(sss_cons (ss_set (i := 2) S_law_state.nd se_int)
(sss_cons (ss_for (passes_of rfl) rfl (si_d rfl (se_sl rfl (se_v 0) so_0 (so_i se_int))) (sg_n (i := 3) S_law_state.nd) (sss_cons (ss_set (i := 1) S_law_state.nd (se_bin (o_add rfl) (se_bin o_mul (se_v 1) se_int) (se_bif b_abs (zz H.hG H.z_abs) (sa_d (se_v 3) sa_0))))
(sss_one (ss_set (i := 2) S_law_state.nd (se_bin o_modI (se_bit b_int (zz H.hG H.z_int) (sa_d (se_bin (o_add rfl) (se_bin o_mul (se_v 2) se_int) (se_v 3)) sa_0)) se_int)))))
(sss_one (ss_ret (se_lst (sa_d (se_v 1) (sa_d (se_v 2) sa_0))))))))
theorem c_law_state (H : Facts K mg a) : FnC PP w K mg base (TT K a) 2 φ_law_state [] a.law_state := by
  obtain ⟨fd, F, ok⟩ := o_law_state (w := w) (base := base) H
  exact fnc_all F ok fun _ _ _ _ _ _ us h => match us, h with | [_], _ => rfl
theorem S_law_take : FnScope N_law_take ["state", "m"] (defScope s_law_take) := ⟨rfl, rfl, rfl, by decide +kernel, rfl, by decide +kernel, by decide +kernel⟩
theorem o_law_take (H : Facts K mg a) : ∃ fd, FunD K "_law_take" "_law_take" (defArgs s_law_take) (defBody s_law_take) (defScope s_law_take) [] [] a.law_take fd ∧ FnOk PP w K mg base (L2.CX PP w) 41 a.law_take fd ["state", "m"] (sp (TT K a) φ_law_take) := by
  obtain ⟨fd, F⟩ := H.F_law_take
  refine ⟨fd, F, fn_d F S_law_take fun cdv A outer s H0 E hr => ?_⟩
  exact (sss_cons (ss_if (st_cmp rfl o_gt (se_ixO 0 se_int) se_int (nomark _)) (sss_cons (ss_set (i := 2) S_law_take.nd (se_bin o_modI (se_bit b_int (zz H.hG H.z_int) (sa_d (se_ixO 0 se_int) sa_0)) (se_v 1)))
(sss_cons (ss_sub 0 (se_bin (o_div ⟨H.sk, rfl, ⟨_, _, rfl, rfl, rfl, rfl, rfl⟩, (hr.mono (show 40 ≤ 40 by decide))⟩) (se_ixO 0 se_int) (se_v 1)) se_int)
(sss_one (ss_ret (se_v 2))))) sss_nil)
(sss_cons (ss_sub 0 (se_bin o_modI (se_bit b_int (zz H.hG H.z_int) (sa_d (se_bin (o_add rfl) (se_bin o_mul (se_ixO 0 se_int) se_int) se_int) sa_0)) se_int) se_int)
(sss_one (ss_ret (se_bin o_modI (se_bit b_int (zz H.hG H.z_int) (sa_d (se_bin (o_div ⟨H.sk, rfl, ⟨_, _, rfl, rfl, rfl, rfl, rfl⟩, (hr.mono (show 40 ≤ 40 by decide))⟩) (se_ixO 0 se_int) se_int) sa_0)) (se_v 1))))))
theorem c_law_take (H : Facts K mg a) : FnC PP w K mg base (TT K a) 41 φ_law_take [] a.law_take := by
  obtain ⟨fd, F, ok⟩ := o_law_take (w := w) (base := base) H
  exact fnc_all F ok fun _ _ _ _ _ _ us h => match us, h with | [_, _], _ => rfl
theorem S_law_told_by : FnScope N_law_told_by ["act", "given"] (defScope s_law_told_by) := ⟨rfl, rfl, rfl, by decide +kernel, rfl, by decide +kernel, by decide +kernel⟩
theorem o_law_told_by (H : Facts K mg a) : ∃ fd, FunD K "_law_told_by" "_law_told_by" (defArgs s_law_told_by) (defBody s_law_told_by) (defScope s_law_told_by) [] [] a.law_told_by fd ∧ FnOk PP w K mg base (L2.CX PP w) 11 a.law_told_by fd ["act", "given"] (sp (TT K a) φ_law_told_by) := by
  obtain ⟨fd, F⟩ := H.F_law_told_by
  refine ⟨fd, F, fn_d F S_law_told_by fun cdv A outer s H0 E hr => ?_⟩
  exact (sss_one (ss_tryM S_law_told_by.nd (HdsS.cons (exm_c (n := 0) H.em_Fault_Malformed (exm_c (n := 1) H.em_Malformed_Malformed (exm_c (n := 2) H.em_Refused_Malformed exm_0))) ⟨rfl, by decide, .inl H.m_Malformed⟩ True.intro (fun xp ob pn hz hf => (sss_one (ss_ret (se_tup (sa_d se_str (sa_d se_non sa_0)))))) (HdsS.cons (exm_c (n := 0) H.em_Fault_Refused (exm_c (n := 1) H.em_Malformed_Refused (exm_c (n := 2) H.em_Refused_Refused exm_0))) ⟨rfl, by decide, .inl H.m_Refused⟩ ⟨rfl, rfl⟩ (fun xp ob pn hz hf => (sss_one (ss_ret (se_tup (sa_d se_str (sa_d (se_xf 2 (xff_c (c := 2) (k := 0) ⟨H.xg_Refused, H.xk_Refused, H.xs_Refused, H.xd_Refused⟩ H.na_Refused_reason (by decide +kernel : (["reason"] : List Str).Nodup) xff_0) hz hf) sa_0)))))) HdsS.nil)) (takes_of rfl rfl rfl rfl) (fun _ _ _ tk pn => (sss_cons (ss_if (st_cmp rfl (o_eq rfl hr.units) (se_bif (b_len rfl) (zz H.hG H.z_len) (sa_d (se_v 1) sa_0)) se_int (nomark _)) (sss_one (ss_ret (se_tup (sa_d se_str (sa_d (se_callL 0 rfl tk ownCalls_0 (fnCalls_c ⟨_, (c_periods H), (hr.mono (show 8 ≤ 10 by decide))⟩ (fnCalls_c ⟨_, (c_border_lengths H), (hr.mono (show 8 ≤ 10 by decide))⟩ (fnCalls_c ⟨_, (c_critical_cuts H), (hr.mono (show 8 ≤ 10 by decide))⟩ fnCalls_0))) (sa_d (se_ix rfl (se_v 1) se_int) sa_0)) sa_0))))) sss_nil)
(sss_cons (ss_if (st_cmp rfl (o_eq rfl hr.units) (se_bif (b_len rfl) (zz H.hG H.z_len) (sa_d (se_v 1) sa_0)) se_int (nomark _)) (sss_one (ss_ret (se_tup (sa_d se_str (sa_d (se_callL 0 rfl tk ownCalls_0 (fnCalls_c ⟨_, (c_local_period H), (hr.mono (show 8 ≤ 10 by decide))⟩ fnCalls_0) (sa_d (se_ix rfl (se_v 1) se_int) (sa_d (se_ix rfl (se_v 1) se_int) sa_0))) sa_0))))) sss_nil)
(sss_cons (ss_if (st_cmp rfl (o_eq rfl hr.units) (se_bif (b_len rfl) (zz H.hG H.z_len) (sa_d (se_v 1) sa_0)) se_int (nomark _)) (sss_one (ss_ret (se_tup (sa_d se_str (sa_d (se_callL 0 rfl tk ownCalls_0 fnCalls_0 (sa_d (se_ix rfl (se_v 1) se_int) (sa_d (se_ix rfl (se_v 1) se_int) (sa_d (se_ix rfl (se_v 1) se_int) sa_0)))) sa_0))))) sss_nil)
(sss_one (ss_ret (se_tup (sa_d se_str (sa_d (se_callL 0 rfl tk ownCalls_0 fnCalls_0 (sa_d (se_ix rfl (se_v 1) se_int) (sa_d (se_ix rfl (se_v 1) se_int) (sa_d (se_ix rfl (se_v 1) se_int) (sa_d (se_ix rfl (se_v 1) se_int) sa_0))))) sa_0)))))))))))
theorem c_law_told_by (H : Facts K mg a) : FnC PP w K mg base (TT K a) 11 φ_law_told_by [] a.law_told_by := by
  obtain ⟨fd, F, ok⟩ := o_law_told_by (w := w) (base := base) H
  exact fnc_all F ok fun _ _ _ _ _ _ us h => match us, h with | [_, _], _ => rfl
theorem S_law_is_int : FnScope N_law_is_int ["value", "due"] (defScope s_law_is_int) := ⟨rfl, rfl, rfl, by decide +kernel, rfl, by decide +kernel, by decide +kernel⟩
theorem o_law_is_int (H : Facts K mg a) : ∃ fd, FunD K "_law_is_int" "_law_is_int" (defArgs s_law_is_int) (defBody s_law_is_int) (defScope s_law_is_int) [] [] a.law_is_int fd ∧ FnOk PP w K mg base (L2.CX PP w) 2 a.law_is_int fd ["value", "due"] (sp (TT K a) φ_law_is_int) := by
  obtain ⟨fd, F⟩ := H.F_law_is_int
  refine ⟨fd, F, fn_d F S_law_is_int fun cdv A outer s H0 E hr => ?_⟩
  exact (sss_one (ss_ret (se_and (se_isi rfl (isi_c (n := 0) (kit_tys (cs := ["int"]) (by decide +kernel)) (isi_c (n := 1) (kit_tys (cs := ["int"]) (by decide +kernel)) (isi_c (n := 2) (kit_tys (cs := ["int"]) (by decide +kernel)) (isi_c (n := 3) (kit_tys (cs := ["int"]) (by decide +kernel)) (isi_c (n := 4) (kit_tys (cs := ["int"]) (by decide +kernel)) (isi_c (n := 5) (kit_tys (cs := ["int"]) (by decide +kernel)) isi_0)))))) (.ty _) (zz H.hG H.z_isinstance) (se_v 0) (pe_bltn (v := .ty "int") rfl (zz H.hG H.z_int) (by decide +kernel : bootBuiltins "int" = some (.type "int")) rfl)) (se_and (se_not (se_isi rfl (isi_c (n := 0) (kit_tys (cs := ["bool"]) (by decide +kernel)) (isi_c (n := 1) (kit_tys (cs := ["bool"]) (by decide +kernel)) (isi_c (n := 2) (kit_tys (cs := ["bool"]) (by decide +kernel)) (isi_c (n := 3) (kit_tys (cs := ["bool"]) (by decide +kernel)) (isi_c (n := 4) (kit_tys (cs := ["bool"]) (by decide +kernel)) (isi_c (n := 5) (kit_tys (cs := ["bool"]) (by decide +kernel)) isi_0)))))) (.ty _) (zz H.hG H.z_isinstance) (se_v 0) (pe_bltn (v := .ty "bool") rfl (zz H.hG H.z_bool) (by decide +kernel : bootBuiltins "bool" = some (.type "bool")) rfl))) (se_one (se_cmp (o_eq rfl hr.units) (se_v 0) (se_v 1) (nomark _)))))))
theorem c_law_is_int (H : Facts K mg a) : FnC PP w K mg base (TT K a) 2 φ_law_is_int [] a.law_is_int := by
  obtain ⟨fd, F, ok⟩ := o_law_is_int (w := w) (base := base) H
  exact fnc_all F ok fun _ _ _ _ _ _ us h => match us, h with | [_, _], _ => rfl
theorem S_law_are_ints : FnScope N_law_are_ints ["value", "due"] (defScope s_law_are_ints) := ⟨rfl, rfl, rfl, by decide +kernel, rfl, by decide +kernel, by decide +kernel⟩
theorem o_law_are_ints (H : Facts K mg a) : ∃ fd, FunD K "_law_are_ints" "_law_are_ints" (defArgs s_law_are_ints) (defBody s_law_are_ints) (defScope s_law_are_ints) [] [] a.law_are_ints fd ∧ FnOk PP w K mg base (L2.CX PP w) 5 a.law_are_ints fd ["value", "due"] (sp (TT K a) φ_law_are_ints) := by
  obtain ⟨fd, F⟩ := H.F_law_are_ints
  refine ⟨fd, F, fn_d F S_law_are_ints fun cdv A outer s H0 E hr => ?_⟩
  exact (sss_one (ss_ret (se_and (se_isi rfl (isi_c (n := 0) (kit_tys (cs := ["tuple"]) (by decide +kernel)) (isi_c (n := 1) (kit_tys (cs := ["tuple"]) (by decide +kernel)) (isi_c (n := 2) (kit_tys (cs := ["tuple"]) (by decide +kernel)) (isi_c (n := 3) (kit_tys (cs := ["tuple"]) (by decide +kernel)) (isi_c (n := 4) (kit_tys (cs := ["tuple"]) (by decide +kernel)) (isi_c (n := 5) (kit_tys (cs := ["tuple"]) (by decide +kernel)) isi_0)))))) (.ty _) (zz H.hG H.z_isinstance) (se_v 0) (pe_bltn (v := .ty "tuple") rfl (zz H.hG H.z_tuple) (by decide +kernel : bootBuiltins "tuple" = some (.type "tuple")) rfl)) (se_and (se_cmp (o_eq rfl hr.units) (se_bif (b_len rfl) (zz H.hG H.z_len) (sa_d (se_v 0) sa_0)) (se_bif (b_len rfl) (zz H.hG H.z_len) (sa_d (se_v 1) sa_0)) (nomark _)) (se_one (se_bif (b_all rfl) (zz H.hG H.z_all) (sa_d (se_lc rfl S_law_are_ints.nd (si_r1 rfl (zz H.hG H.z_range) (sa_d (se_bif (b_len rfl) (zz H.hG H.z_len) (sa_d (se_v 1) sa_0)) sa_0)) (blkOk_by (N := N_law_are_ints) (own := [("k", 2)]) (sc := defScope s_law_are_ints) (by decide +kernel)) (fun _ _ _ _ _ => (sg_n (i := 2) S_law_are_ints.nd)) (fun _ _ _ _ _ => sts_0) (fun _ _ _ _ _ => (se_call (c_law_is_int H) H.m__law_is_int (hr.mono (show 2 ≤ 4 by decide)) takes0 (sa_d (se_ix rfl (se_v 0) (se_v 2)) (sa_d (se_ix rfl (se_v 1) (se_v 2)) sa_0))))) sa_0)))))))
theorem c_law_are_ints (H : Facts K mg a) : FnC PP w K mg base (TT K a) 5 φ_law_are_ints [] a.law_are_ints := by
  obtain ⟨fd, F, ok⟩ := o_law_are_ints (w := w) (base := base) H
  exact fnc_all F ok fun _ _ _ _ _ _ us h => match us, h with | [_, _], _ => rfl
theorem S_law_abc : FnScope N_law_abc ["state", "k", "n"] (defScope s_law_abc) := ⟨rfl, rfl, rfl, by decide +kernel, rfl, by decide +kernel, by decide +kernel⟩
theorem o_law_abc (H : Facts K mg a) : ∃ fd, FunD K "_law_abc" "_law_abc" (defArgs s_law_abc) (defBody s_law_abc) (defScope s_law_abc) [] [] a.law_abc fd ∧ FnOk PP w K mg base (L2.CX PP w) 44 a.law_abc fd ["state", "k", "n"] (sp (TT K a) φ_law_abc) := by
  obtain ⟨fd, F⟩ := H.F_law_abc
  refine ⟨fd, F, fn_d F S_law_abc fun cdv A outer s H0 E hr => ?_⟩
  exact (sss_one (ss_ret (se_ms PySem.F.slot_str_join PySem.F.type_str_join mt_join ms_join se_str (sa_d (se_lc rfl S_law_abc.nd (si_r1 rfl (zz H.hG H.z_range) (sa_d (se_v 2) sa_0)) (blkOk_by (N := N_law_abc) (own := [("turn", 3)]) (sc := defScope s_law_abc) (by decide +kernel)) (fun _ _ _ _ _ => (sg_n (i := 3) S_law_abc.nd)) (fun _ _ _ _ _ => sts_0) (fun _ _ _ _ _ => (se_ix rfl se_str (se_call (c_law_take H) H.m__law_take (hr.mono (show 41 ≤ 43 by decide)) takes0 (sa_s 0 (sa_d (se_v 1) sa_0)))))) sa_0))))
theorem c_law_abc (H : Facts K mg a) : FnC PP w K mg base (TT K a) 44 φ_law_abc [] a.law_abc := by
  obtain ⟨fd, F, ok⟩ := o_law_abc (w := w) (base := base) H
  exact fnc_all F ok fun _ _ _ _ _ _ us h => match us, h with | [_, _, _], _ => rfl
theorem S_law_periods : FnScope N_law_periods ["w"] (defScope s_law_periods) := ⟨rfl, rfl, rfl, by decide +kernel, rfl, by decide +kernel, by decide +kernel⟩
theorem o_law_periods (H : Facts K mg a) : ∃ fd, FunD K "_law_periods" "_law_periods" (defArgs s_law_periods) (defBody s_law_periods) (defScope s_law_periods) [] [] a.law_periods fd ∧ FnOk PP w K mg base (L2.CX PP w) 2 a.law_periods fd ["w"] (sp (TT K a) φ_law_periods) := by
  obtain ⟨fd, F⟩ := H.F_law_periods
  refine ⟨fd, F, fn_d F S_law_periods fun cdv A outer s H0 E hr => ?_⟩
  exact (sss_one (ss_ret (se_lc rfl S_law_periods.nd (si_r2 rfl (zz H.hG H.z_range) (sa_d se_int (sa_d (se_bin (o_add rfl) (se_bif (b_len rfl) (zz H.hG H.z_len) (sa_d (se_v 0) sa_0)) se_int) sa_0))) (blkOk_by (N := N_law_periods) (own := [("p", 1)]) (sc := defScope s_law_periods) (by decide +kernel)) (fun _ _ _ _ _ => (sg_n (i := 1) S_law_periods.nd)) (fun _ _ _ _ _ => (sts_1 (st_tr rfl (se_bif (b_all rfl) (zz H.hG H.z_all) (sa_d (se_lc rfl S_law_periods.nd (si_r1 rfl (zz H.hG H.z_range) (sa_d (se_bin o_subI (se_bif (b_len rfl) (zz H.hG H.z_len) (sa_d (se_v 0) sa_0)) (se_v 1)) sa_0)) (blkOk_by (N := N_law_periods) (own := [("i", 2)]) (sc := relabelS _ (defScope s_law_periods)) (by decide +kernel)) (fun _ _ _ _ _ => (sg_n (i := 2) S_law_periods.nd)) (fun _ _ _ _ _ => sts_0) (fun _ _ _ _ _ => (se_cmp (o_eq rfl hr.units) (se_ix rfl (se_v 0) (se_v 2)) (se_ix rfl (se_v 0) (se_bin (o_add rfl) (se_v 2) (se_v 1))) (nomark _)))) sa_0))))) (fun _ _ _ _ _ => (se_v 1)))))
theorem c_law_periods (H : Facts K mg a) : FnC PP w K mg base (TT K a) 2 φ_law_periods [] a.law_periods := by
  obtain ⟨fd, F, ok⟩ := o_law_periods (w := w) (base := base) H
  exact fnc_all F ok fun _ _ _ _ _ _ us h => match us, h with | [_], _ => rfl
theorem S_law_local : FnScope N_law_local ["w", "at"] (defScope s_law_local) := ⟨rfl, rfl, rfl, by decide +kernel, rfl, by decide +kernel, by decide +kernel⟩
theorem o_law_local (H : Facts K mg a) : ∃ fd, FunD K "_law_local" "_law_local" (defArgs s_law_local) (defBody s_law_local) (defScope s_law_local) [] [] a.law_local fd ∧ FnOk PP w K mg base (L2.CX PP w) 2 a.law_local fd ["w", "at"] (sp (TT K a) φ_law_local) := by
  obtain ⟨fd, F⟩ := H.F_law_local
  refine ⟨fd, F, fn_d F S_law_local fun cdv A outer s H0 E hr => ?_⟩
  exact (sss_cons (ss_set (i := 2) S_law_local.nd se_int)
(sss_cons (ss_while fuelE (passes_of rfl) (st_not (st_tr rfl (se_bif (b_all rfl) (zz H.hG H.z_all) (sa_d (se_lc rfl S_law_local.nd (si_r1 rfl (zz H.hG H.z_range) (sa_d (se_bin o_subI (se_bif (b_len rfl) (zz H.hG H.z_len) (sa_d (se_v 0) sa_0)) (se_v 2)) sa_0)) (blkOk_by (N := N_law_local) (own := [("i", 3)]) (sc := defScope s_law_local) (by decide +kernel)) (fun _ _ _ _ _ => (sg_n (i := 3) S_law_local.nd)) (fun _ _ _ _ _ => (sts_1 (SW.st (sw_and (st_cmp rfl o_lt (se_v 3) (se_v 1) (nomark _)) (sw_and1 (st_cmp rfl o_ge (se_bin (o_add rfl) (se_v 3) (se_v 2)) (se_v 1) (nomark _))))))) (fun _ _ _ _ _ => (se_cmp (o_eq rfl hr.units) (se_ix rfl (se_v 0) (se_v 3)) (se_ix rfl (se_v 0) (se_bin (o_add rfl) (se_v 3) (se_v 2))) (nomark _)))) sa_0)))) (sss_one (ss_set (i := 2) S_law_local.nd (se_bin (o_add rfl) (se_v 2) se_int))))
(sss_one (ss_ret (se_v 2)))))
theorem c_law_local (H : Facts K mg a) : FnC PP w K mg base (TT K a) 2 φ_law_local [] a.law_local := by
  obtain ⟨fd, F, ok⟩ := o_law_local (w := w) (base := base) H
  exact fnc_all F ok fun _ _ _ _ _ _ us h => match us, h with | [_, _], _ => rfl
theorem S_law_asked : FnScope N_law_asked ["w"] (defScope s_law_asked) := ⟨rfl, rfl, rfl, by decide +kernel, rfl, by decide +kernel, by decide +kernel⟩
theorem o_law_asked (H : Facts K mg a) : ∃ fd, FunD K "_law_asked" "_law_asked" (defArgs s_law_asked) (defBody s_law_asked) (defScope s_law_asked) [] [] a.law_asked fd ∧ FnOk PP w K mg base (L2.CX PP w) 11 a.law_asked fd ["w"] (sp (TT K a) φ_law_asked) := by
  obtain ⟨fd, F⟩ := H.F_law_asked
  refine ⟨fd, F, fn_d F S_law_asked fun cdv A outer s H0 E hr => ?_⟩
  exact (sss_cons (ss_set (i := 1) S_law_asked.nd (se_call (c_law_periods H) H.m__law_periods (hr.mono (show 2 ≤ 10 by decide)) (takes_of rfl rfl rfl rfl) (sa_d (se_v 0) sa_0)))
(sss_cons (ss_setLc (i := 2) rfl S_law_asked.nd (si_r1 rfl (zz H.hG H.z_range) (sa_d (se_bif (b_len rfl) (zz H.hG H.z_len) (sa_d (se_v 0) sa_0)) sa_0)) (blkOk_by (N := N_law_asked) (own := [("n", 3)]) (sc := defScope s_law_asked) (by decide +kernel)) (fun _ _ _ _ _ => (sg_n (i := 3) S_law_asked.nd)) (fun _ _ _ _ _ => (sts_1 (st_cmp rfl (o_eq rfl hr.units) (se_sl rfl (se_v 0) so_0 (so_i (se_v 3))) (se_sl rfl (se_v 0) (so_i (se_bin o_subI (se_bif (b_len rfl) (zz H.hG H.z_len) (sa_d (se_v 0) sa_0)) (se_v 3))) so_0) (nomark _)))) (fun _ _ _ _ _ => (se_v 3)))
(sss_cons (ss_if (SW.st (sw_or (st_not (st_tr rfl (se_call (c_law_are_ints H) H.m__law_are_ints (hr.mono (show 5 ≤ 10 by decide)) (takes_of rfl rfl rfl rfl) (sa_d (se_call (c_periods H) H.m_periods (hr.mono (show 8 ≤ 10 by decide)) (takes_of rfl rfl rfl rfl) (sa_d (se_v 0) sa_0)) (sa_d (se_v 1) sa_0))))) (sw_or1 (st_not (st_tr rfl (se_call (c_law_are_ints H) H.m__law_are_ints (hr.mono (show 5 ≤ 10 by decide)) (takes_of rfl rfl rfl rfl) (sa_d (se_call (c_border_lengths H) H.m_border_lengths (hr.mono (show 8 ≤ 10 by decide)) (takes_of rfl rfl rfl rfl) (sa_d (se_v 0) sa_0)) (sa_d (se_v 2) sa_0)))))))) (sss_one (ss_ret se_bl)) sss_nil)
(sss_cons (ss_if (st_cmp rfl (o_ne rfl hr.units) (se_lc rfl S_law_asked.nd (si_d rfl (se_rv2 rfl (se_v 1))) (blkOk_by (N := N_law_asked) (own := [("p", 4)]) (sc := defScope s_law_asked) (by decide +kernel)) (fun _ _ _ _ _ => (sg_n (i := 4) S_law_asked.nd)) (fun _ _ _ _ _ => sts_0) (fun _ _ _ _ _ => (se_bin o_subI (se_bif (b_len rfl) (zz H.hG H.z_len) (sa_d (se_v 0) sa_0)) (se_v 4)))) (se_v 2) (nomark _)) (sss_one (ss_ret se_bl)) sss_nil)
(sss_cons (ss_set (i := 5) S_law_asked.nd (se_lc rfl S_law_asked.nd (si_r2 rfl (zz H.hG H.z_range) (sa_d se_int (sa_d (se_bif (b_len rfl) (zz H.hG H.z_len) (sa_d (se_v 0) sa_0)) sa_0))) (blkOk_by (N := N_law_asked) (own := [("at", 6)]) (sc := defScope s_law_asked) (by decide +kernel)) (fun _ _ _ _ _ => (sg_n (i := 6) S_law_asked.nd)) (fun _ _ _ _ _ => sts_0) (fun _ _ _ _ _ => (se_call (c_law_local H) H.m__law_local (hr.mono (show 2 ≤ 10 by decide)) takes0 (sa_d (se_v 0) (sa_d (se_v 6) sa_0))))))
(sss_cons (ss_for (passes_of rfl) rfl (si_r2 rfl (zz H.hG H.z_range) (sa_d se_int (sa_d (se_bif (b_len rfl) (zz H.hG H.z_len) (sa_d (se_v 0) sa_0)) sa_0))) (sg_n (i := 6) S_law_asked.nd) (sss_one (ss_if (SW.st (sw_or (st_not (st_tr rfl (se_call (c_law_is_int H) H.m__law_is_int (hr.mono (show 2 ≤ 10 by decide)) (takes_of rfl rfl rfl rfl) (sa_d (se_call (c_local_period H) H.m_local_period (hr.mono (show 8 ≤ 10 by decide)) (takes_of rfl rfl rfl rfl) (sa_d (se_v 0) (sa_d (se_v 6) sa_0))) (sa_d (se_ix rfl (se_v 5) (se_bin o_subI (se_v 6) se_int)) sa_0))))) (sw_or1 (st_cmp rfl o_gt (se_ix rfl (se_v 5) (se_bin o_subI (se_v 6) se_int)) (se_ix rfl (se_v 1) se_int) (nomark _))))) (sss_one (ss_ret se_bl)) sss_nil)))
(sss_cons (ss_setLc (i := 7) rfl S_law_asked.nd (si_r2 rfl (zz H.hG H.z_range) (sa_d se_int (sa_d (se_bif (b_len rfl) (zz H.hG H.z_len) (sa_d (se_v 0) sa_0)) sa_0))) (blkOk_by (N := N_law_asked) (own := [("at", 6)]) (sc := defScope s_law_asked) (by decide +kernel)) (fun _ _ _ _ _ => (sg_n (i := 6) S_law_asked.nd)) (fun _ _ _ _ _ => (sts_1 (st_cmp rfl (o_eq rfl hr.units) (se_ix rfl (se_v 5) (se_bin o_subI (se_v 6) se_int)) (se_ix rfl (se_v 1) se_int) (nomark _)))) (fun _ _ _ _ _ => (se_v 6)))
(sss_cons (ss_if (st_not (st_tr rfl (se_call (c_law_are_ints H) H.m__law_are_ints (hr.mono (show 5 ≤ 10 by decide)) (takes_of rfl rfl rfl rfl) (sa_d (se_call (c_critical_cuts H) H.m_critical_cuts (hr.mono (show 8 ≤ 10 by decide)) (takes_of rfl rfl rfl rfl) (sa_d (se_v 0) sa_0)) (sa_d (se_v 7) sa_0))))) (sss_one (ss_ret se_bl)) sss_nil)
(sss_one (ss_ret (se_or (se_cmp o_lt (se_bif (b_len rfl) (zz H.hG H.z_len) (sa_d (se_v 0) sa_0)) se_int (nomark _)) (se_one (se_and (se_cmp o_gt (se_bif (b_len rfl) (zz H.hG H.z_len) (sa_d (se_v 7) sa_0)) se_int (nomark _)) (se_one (se_cmp o_le (se_ix rfl (se_v 7) se_int) (se_bif (b_max2 rfl) (zz H.hG H.z_max) (sa_d se_int (sa_d (se_bin o_subI (se_ix rfl (se_v 1) se_int) se_int) sa_0))) (nomark _))))))))))))))))
theorem c_law_asked (H : Facts K mg a) : FnC PP w K mg base (TT K a) 11 φ_law_asked [] a.law_asked := by
  obtain ⟨fd, F, ok⟩ := o_law_asked (w := w) (base := base) H
  exact fnc_all F ok fun _ _ _ _ _ _ us h => match us, h with | [_], _ => rfl
theorem S_law : FnScope N_law ["script"] (defScope s_law) := ⟨rfl, rfl, rfl, by decide +kernel, rfl, by decide +kernel, by decide +kernel⟩
theorem o_law (H : Facts K mg a) : ∃ fd, FunD K "law" "law" (defArgs s_law) (defBody s_law) (defScope s_law) [] [] a.law fd ∧ FnOk PP w K mg base (L2.CX PP w) 47 a.law fd ["script"] (sp (TT K a) φ_law) := by
  obtain ⟨fd, F⟩ := H.F_law
  refine ⟨fd, F, fn_d F S_law fun cdv A outer s H0 E hr => ?_⟩
  exact (sss_cons (ss_setO (i := 1) S_law.nd (se_call (c_law_state H) H.m__law_state (hr.mono (show 2 ≤ 46 by decide)) (takes_of rfl rfl rfl rfl) (sa_d (se_v 0) sa_0)))
(sss_cons (ss_for (passes_of rfl) rfl (si_r1 rfl (zz H.hG H.z_range) (sa_d se_int sa_0)) (sg_n (i := 2) S_law.nd) (sss_cons (ss_set (i := 3) S_law.nd (se_call (c_law_abc H) H.m__law_abc (hr.mono (show 44 ≤ 46 by decide)) (takes_of rfl rfl rfl rfl) (sa_s 1 (sa_d (se_bin (o_add rfl) se_int (se_call (c_law_take H) H.m__law_take (hr.mono (show 41 ≤ 46 by decide)) (takes_of rfl rfl rfl rfl) (sa_s 1 (sa_d se_int sa_0)))) (sa_d (se_call (c_law_take H) H.m__law_take (hr.mono (show 41 ≤ 46 by decide)) (takes_of rfl rfl rfl rfl) (sa_s 1 (sa_d se_int sa_0))) sa_0)))))
(sss_cons (ss_set (i := 4) S_law.nd (se_call (c_law_take H) H.m__law_take (hr.mono (show 41 ≤ 46 by decide)) (takes_of rfl rfl rfl rfl) (sa_s 1 (sa_d se_int sa_0))))
(sss_cons (ss_if (st_cmp rfl (o_eq rfl hr.units) (se_v 4) se_int (nomark _)) (sss_one (ss_set (i := 3) S_law.nd (se_sl rfl (se_bin o_mul (se_sl rfl (se_v 3) so_0 (so_i se_int)) se_int) so_0 (so_i (se_call (c_law_take H) H.m__law_take (hr.mono (show 41 ≤ 46 by decide)) (takes_of rfl rfl rfl rfl) (sa_s 1 (sa_d se_int sa_0))))))) sss_nil)
(sss_cons (ss_if (st_cmp rfl (o_eq rfl hr.units) (se_v 4) se_int (nomark _)) (sss_one (ss_set (i := 3) S_law.nd (se_bin (o_add rfl) (se_sl rfl (se_v 3) so_0 (so_i se_int)) (se_rv2 rfl (se_sl rfl (se_v 3) so_0 (so_i se_int)))))) sss_nil)
(sss_cons (ss_if (st_cmp rfl (o_eq rfl hr.units) (se_v 4) se_int (nomark _)) (sss_one (ss_set (i := 3) S_law.nd (se_bin (o_add rfl) (se_bin (o_add rfl) (se_sl rfl (se_v 3) so_0 (so_i se_int)) (se_call (c_law_abc H) H.m__law_abc (hr.mono (show 44 ≤ 46 by decide)) (takes_of rfl rfl rfl rfl) (sa_s 1 (sa_d se_int (sa_d (se_call (c_law_take H) H.m__law_take (hr.mono (show 41 ≤ 46 by decide)) (takes_of rfl rfl rfl rfl) (sa_s 1 (sa_d se_int sa_0))) sa_0))))) (se_sl rfl (se_v 3) so_0 (so_i se_int))))) sss_nil)
(sss_one (ss_if (st_not (st_tr rfl (se_call (c_law_asked H) H.m__law_asked (hr.mono (show 11 ≤ 46 by decide)) (takes_of rfl rfl rfl rfl) (sa_d (se_v 3) sa_0)))) (sss_one (ss_ret se_bl)) sss_nil))))))))
(sss_cons (ss_if (st_not (st_tr rfl (se_call (c_law_asked H) H.m__law_asked (hr.mono (show 11 ≤ 46 by decide)) (takes_of rfl rfl rfl rfl) (sa_d (se_sl rfl (se_bin o_mul (se_call (c_law_abc H) H.m__law_abc (hr.mono (show 44 ≤ 46 by decide)) (takes_of rfl rfl rfl rfl) (sa_s 1 (sa_d se_int (sa_d se_int sa_0)))) se_int) so_0 (so_i se_int)) sa_0)))) (sss_one (ss_ret se_bl)) sss_nil)
(sss_cons (ss_for (passes_of rfl) rfl (si_d rfl (se_lst (sa_d se_non (sa_d se_int (sa_d se_str (sa_d se_str (sa_d (se_tup (sa_d se_str sa_0)) (sa_d (se_bin o_mul se_str se_int) sa_0)))))))) (sg_n (i := 5) S_law.nd) (sss_cons (ss_for (passes_of rfl) rfl (si_d rfl (se_tup (sa_d (se_glob (v := .ref _) H.m_border_lengths rfl (fun _ => .fn 1)) (sa_d (se_glob (v := .ref _) H.m_periods rfl (fun _ => .fn 0)) (sa_d (se_glob (v := .ref _) H.m_critical_cuts rfl (fun _ => .fn 2)) sa_0))))) (sg_n (i := 6) S_law.nd) (sss_one (ss_if (st_cmp rfl (o_ne rfl hr.units) (se_ix rfl (se_call (c_law_told_by H) H.m__law_told_by (hr.mono (show 11 ≤ 46 by decide)) (takes_of rfl rfl rfl rfl) (sa_d (se_v 6) (sa_d (se_tup (sa_d (se_v 5) sa_0)) sa_0))) se_int) se_str (nomark _)) (sss_one (ss_ret se_bl)) sss_nil)))
(sss_one (ss_if (st_cmp rfl (o_ne rfl hr.units) (se_ix rfl (se_call (c_law_told_by H) H.m__law_told_by (hr.mono (show 11 ≤ 46 by decide)) (takes_of rfl rfl rfl rfl) (sa_d (se_glob (v := .ref _) H.m_local_period rfl (fun _ => .fn 3)) (sa_d (se_tup (sa_d (se_v 5) (sa_d se_int sa_0))) sa_0))) se_int) se_str (nomark _)) (sss_one (ss_ret se_bl)) sss_nil))))
(sss_one (ss_ret (se_bif (b_all rfl) (zz H.hG H.z_all) (sa_d (se_lc rfl S_law.nd (si_d rfl (se_lst (sa_d se_int (sa_d se_int (sa_d (se_neg se_int) (sa_d se_non (sa_d se_bl (sa_d se_str sa_0)))))))) (blkOk_by (N := N_law) (own := [("bad", 5)]) (sc := defScope s_law) (by decide +kernel)) (fun _ _ _ _ _ => (sg_n (i := 5) S_law.nd)) (fun _ _ _ _ _ => sts_0) (fun _ _ _ _ _ => (se_cmp (o_eq rfl hr.units) (se_ix rfl (se_call (c_law_told_by H) H.m__law_told_by (hr.mono (show 11 ≤ 46 by decide)) takes0 (sa_d (se_glob (v := .ref _) H.m_local_period rfl (fun _ => .fn 3)) (sa_d (se_tup (sa_d se_str (sa_d (se_v 5) sa_0))) sa_0))) se_int) se_str (nomark _)))) sa_0))))))))
end
theorem all_mk {K : PySem.W.Frag} {w : World} {fa : Addr} {h : Heap} {mg : Str → Option Value} (KX : K.In h) (G : h.Ns mainGlobals mg) (hmg : mg "law" = some (.ref fa))
    {A_is_integer A_is_word A_check_word A_border_row A_border_lengths A_periods_of A_periods A_repeats_about A_local_at A_local_period A_critical_cuts A_law_state A_law_take A_law_told_by A_law_is_int A_law_are_ints A_law_abc A_law_periods A_law_local A_law_asked A_law A_Fault A_Malformed A_Refused : Addr}
    {oc_is_integer kV_is_integer dc_is_integer pm_is_integer cd_is_integer ct_is_integer oc_is_word kV_is_word dc_is_word pm_is_word cd_is_word ct_is_word oc_check_word kV_check_word dc_check_word pm_check_word cd_check_word ct_check_word oc_border_row kV_border_row dc_border_row pm_border_row cd_border_row ct_border_row oc_border_lengths kV_border_lengths dc_border_lengths pm_border_lengths cd_border_lengths ct_border_lengths oc_periods_of kV_periods_of dc_periods_of pm_periods_of cd_periods_of ct_periods_of oc_periods kV_periods dc_periods pm_periods cd_periods ct_periods oc_repeats_about kV_repeats_about dc_repeats_about pm_repeats_about cd_repeats_about ct_repeats_about oc_local_at kV_local_at dc_local_at pm_local_at cd_local_at ct_local_at oc_local_period kV_local_period dc_local_period pm_local_period cd_local_period ct_local_period oc_critical_cuts kV_critical_cuts dc_critical_cuts pm_critical_cuts cd_critical_cuts ct_critical_cuts oc_law_state kV_law_state dc_law_state pm_law_state cd_law_state ct_law_state oc_law_take kV_law_take dc_law_take pm_law_take cd_law_take ct_law_take oc_law_told_by kV_law_told_by dc_law_told_by pm_law_told_by cd_law_told_by ct_law_told_by oc_law_is_int kV_law_is_int dc_law_is_int pm_law_is_int cd_law_is_int ct_law_is_int oc_law_are_ints kV_law_are_ints dc_law_are_ints pm_law_are_ints cd_law_are_ints ct_law_are_ints oc_law_abc kV_law_abc dc_law_abc pm_law_abc cd_law_abc ct_law_abc oc_law_periods kV_law_periods dc_law_periods pm_law_periods cd_law_periods ct_law_periods oc_law_local kV_law_local dc_law_local pm_law_local cd_law_local ct_law_local oc_law_asked kV_law_asked dc_law_asked pm_law_asked cd_law_asked ct_law_asked oc_law kV_law dc_law pm_law cd_law ct_law : Value} {od_is_integer an_is_integer od_is_word an_is_word od_check_word an_check_word od_border_row an_border_row od_border_lengths an_border_lengths od_periods_of an_periods_of od_periods an_periods od_repeats_about an_repeats_about od_local_at an_local_at od_local_period an_local_period od_critical_cuts an_critical_cuts od_law_state an_law_state od_law_take an_law_take od_law_told_by an_law_told_by od_law_is_int an_law_is_int od_law_are_ints an_law_are_ints od_law_abc an_law_abc od_law_periods an_law_periods od_law_local an_law_local od_law_asked an_law_asked od_law an_law : Option Addr} {sl_is_integer sl_is_word sl_check_word sl_border_row sl_border_lengths sl_periods_of sl_periods sl_repeats_about sl_local_at sl_local_period sl_critical_cuts sl_law_state sl_law_take sl_law_told_by sl_law_is_int sl_law_are_ints sl_law_abc sl_law_periods sl_law_local sl_law_asked sl_law : Array (Option Value)}
    {t_MOST_LONG : Tok}
    {bm : Addr} {ob : Data} {slb sl2 : Array (Option Value)} {cb : Value} {db : Option Addr} {es : Array DictEntry} {nb : Nat} (s1 : PySem.W.nsIn K cStatics "sys.audit-hooks" = some none) (s2 : PySem.W.nsIn K cStatics "sys.dict" = some none) (s3 : PySem.W.nsIn K sysModules "_pylong" = some none)
    (s4 : K.lookup sysModules = some ⟨cb, db, .dict es nb, sl2⟩) (s5 : (es.toList.all fun e => match e.key with | .str _ _ => true | _ => false) = true) (s6 : PySem.W.nsIn K mainGlobals "__builtins__" = some (some (.ref bm))) (s7 : K.lookup bm = some ⟨.type "module", some builtinsNs, ob, slb⟩)
    (h_m_is_integer : PySem.W.nsIn K mainGlobals "is_integer" = some (some (.ref A_is_integer)))
    (h_m_is_word : PySem.W.nsIn K mainGlobals "is_word" = some (some (.ref A_is_word)))
    (h_m_check_word : PySem.W.nsIn K mainGlobals "check_word" = some (some (.ref A_check_word)))
    (h_m_border_row : PySem.W.nsIn K mainGlobals "border_row" = some (some (.ref A_border_row)))
    (h_m_border_lengths : PySem.W.nsIn K mainGlobals "border_lengths" = some (some (.ref A_border_lengths)))
    (h_m_periods_of : PySem.W.nsIn K mainGlobals "periods_of" = some (some (.ref A_periods_of)))
    (h_m_periods : PySem.W.nsIn K mainGlobals "periods" = some (some (.ref A_periods)))
    (h_m_repeats_about : PySem.W.nsIn K mainGlobals "repeats_about" = some (some (.ref A_repeats_about)))
    (h_m_local_at : PySem.W.nsIn K mainGlobals "local_at" = some (some (.ref A_local_at)))
    (h_m_local_period : PySem.W.nsIn K mainGlobals "local_period" = some (some (.ref A_local_period)))
    (h_m_critical_cuts : PySem.W.nsIn K mainGlobals "critical_cuts" = some (some (.ref A_critical_cuts)))
    (h_m__law_state : PySem.W.nsIn K mainGlobals "_law_state" = some (some (.ref A_law_state)))
    (h_m__law_take : PySem.W.nsIn K mainGlobals "_law_take" = some (some (.ref A_law_take)))
    (h_m__law_told_by : PySem.W.nsIn K mainGlobals "_law_told_by" = some (some (.ref A_law_told_by)))
    (h_m__law_is_int : PySem.W.nsIn K mainGlobals "_law_is_int" = some (some (.ref A_law_is_int)))
    (h_m__law_are_ints : PySem.W.nsIn K mainGlobals "_law_are_ints" = some (some (.ref A_law_are_ints)))
    (h_m__law_abc : PySem.W.nsIn K mainGlobals "_law_abc" = some (some (.ref A_law_abc)))
    (h_m__law_periods : PySem.W.nsIn K mainGlobals "_law_periods" = some (some (.ref A_law_periods)))
    (h_m__law_local : PySem.W.nsIn K mainGlobals "_law_local" = some (some (.ref A_law_local)))
    (h_m__law_asked : PySem.W.nsIn K mainGlobals "_law_asked" = some (some (.ref A_law_asked)))
    (h_m_law : PySem.W.nsIn K mainGlobals "law" = some (some (.ref A_law)))
    (h_m_Fault : PySem.W.nsIn K mainGlobals "Fault" = some (some (.ref A_Fault)))
    (h_m_Malformed : PySem.W.nsIn K mainGlobals "Malformed" = some (some (.ref A_Malformed)))
    (h_m_Refused : PySem.W.nsIn K mainGlobals "Refused" = some (some (.ref A_Refused)))
    (h_m_MOST_LONG : PySem.W.nsIn K mainGlobals "MOST_LONG" = some (some (.int 60 t_MOST_LONG)))
    (h_z_isinstance : PySem.W.nsIn K mainGlobals "isinstance" = some none)
    (h_z_int : PySem.W.nsIn K mainGlobals "int" = some none)
    (h_z_bool : PySem.W.nsIn K mainGlobals "bool" = some none)
    (h_z_str : PySem.W.nsIn K mainGlobals "str" = some none)
    (h_z_all : PySem.W.nsIn K mainGlobals "all" = some none)
    (h_z_len : PySem.W.nsIn K mainGlobals "len" = some none)
    (h_z_enumerate : PySem.W.nsIn K mainGlobals "enumerate" = some none)
    (h_z_tuple : PySem.W.nsIn K mainGlobals "tuple" = some none)
    (h_z_range : PySem.W.nsIn K mainGlobals "range" = some none)
    (h_z_min : PySem.W.nsIn K mainGlobals "min" = some none)
    (h_z_max : PySem.W.nsIn K mainGlobals "max" = some none)
    (h_z_abs : PySem.W.nsIn K mainGlobals "abs" = some none)
    (h_l_is_integer : K.lookup A_is_integer = some ⟨oc_is_integer, od_is_integer, .func (PySem.W.fnOf "is_integer" "is_integer" (defArgs s_is_integer) (defBody s_is_integer) (defScope s_is_integer) .none kV_is_integer dc_is_integer pm_is_integer an_is_integer cd_is_integer ct_is_integer), sl_is_integer⟩)
    (h_l_is_word : K.lookup A_is_word = some ⟨oc_is_word, od_is_word, .func (PySem.W.fnOf "is_word" "is_word" (defArgs s_is_word) (defBody s_is_word) (defScope s_is_word) .none kV_is_word dc_is_word pm_is_word an_is_word cd_is_word ct_is_word), sl_is_word⟩)
    (h_l_check_word : K.lookup A_check_word = some ⟨oc_check_word, od_check_word, .func (PySem.W.fnOf "check_word" "check_word" (defArgs s_check_word) (defBody s_check_word) (defScope s_check_word) .none kV_check_word dc_check_word pm_check_word an_check_word cd_check_word ct_check_word), sl_check_word⟩)
    (h_l_border_row : K.lookup A_border_row = some ⟨oc_border_row, od_border_row, .func (PySem.W.fnOf "border_row" "border_row" (defArgs s_border_row) (defBody s_border_row) (defScope s_border_row) .none kV_border_row dc_border_row pm_border_row an_border_row cd_border_row ct_border_row), sl_border_row⟩)
    (h_l_border_lengths : K.lookup A_border_lengths = some ⟨oc_border_lengths, od_border_lengths, .func (PySem.W.fnOf "border_lengths" "border_lengths" (defArgs s_border_lengths) (defBody s_border_lengths) (defScope s_border_lengths) .none kV_border_lengths dc_border_lengths pm_border_lengths an_border_lengths cd_border_lengths ct_border_lengths), sl_border_lengths⟩)
    (h_l_periods_of : K.lookup A_periods_of = some ⟨oc_periods_of, od_periods_of, .func (PySem.W.fnOf "periods_of" "periods_of" (defArgs s_periods_of) (defBody s_periods_of) (defScope s_periods_of) .none kV_periods_of dc_periods_of pm_periods_of an_periods_of cd_periods_of ct_periods_of), sl_periods_of⟩)
    (h_l_periods : K.lookup A_periods = some ⟨oc_periods, od_periods, .func (PySem.W.fnOf "periods" "periods" (defArgs s_periods) (defBody s_periods) (defScope s_periods) .none kV_periods dc_periods pm_periods an_periods cd_periods ct_periods), sl_periods⟩)
    (h_l_repeats_about : K.lookup A_repeats_about = some ⟨oc_repeats_about, od_repeats_about, .func (PySem.W.fnOf "repeats_about" "repeats_about" (defArgs s_repeats_about) (defBody s_repeats_about) (defScope s_repeats_about) .none kV_repeats_about dc_repeats_about pm_repeats_about an_repeats_about cd_repeats_about ct_repeats_about), sl_repeats_about⟩)
    (h_l_local_at : K.lookup A_local_at = some ⟨oc_local_at, od_local_at, .func (PySem.W.fnOf "local_at" "local_at" (defArgs s_local_at) (defBody s_local_at) (defScope s_local_at) .none kV_local_at dc_local_at pm_local_at an_local_at cd_local_at ct_local_at), sl_local_at⟩)
    (h_l_local_period : K.lookup A_local_period = some ⟨oc_local_period, od_local_period, .func (PySem.W.fnOf "local_period" "local_period" (defArgs s_local_period) (defBody s_local_period) (defScope s_local_period) .none kV_local_period dc_local_period pm_local_period an_local_period cd_local_period ct_local_period), sl_local_period⟩)
    (h_l_critical_cuts : K.lookup A_critical_cuts = some ⟨oc_critical_cuts, od_critical_cuts, .func (PySem.W.fnOf "critical_cuts" "critical_cuts" (defArgs s_critical_cuts) (defBody s_critical_cuts) (defScope s_critical_cuts) .none kV_critical_cuts dc_critical_cuts pm_critical_cuts an_critical_cuts cd_critical_cuts ct_critical_cuts), sl_critical_cuts⟩)
    (h_l_law_state : K.lookup A_law_state = some ⟨oc_law_state, od_law_state, .func (PySem.W.fnOf "_law_state" "_law_state" (defArgs s_law_state) (defBody s_law_state) (defScope s_law_state) .none kV_law_state dc_law_state pm_law_state an_law_state cd_law_state ct_law_state), sl_law_state⟩)
    (h_l_law_take : K.lookup A_law_take = some ⟨oc_law_take, od_law_take, .func (PySem.W.fnOf "_law_take" "_law_take" (defArgs s_law_take) (defBody s_law_take) (defScope s_law_take) .none kV_law_take dc_law_take pm_law_take an_law_take cd_law_take ct_law_take), sl_law_take⟩)
    (h_l_law_told_by : K.lookup A_law_told_by = some ⟨oc_law_told_by, od_law_told_by, .func (PySem.W.fnOf "_law_told_by" "_law_told_by" (defArgs s_law_told_by) (defBody s_law_told_by) (defScope s_law_told_by) .none kV_law_told_by dc_law_told_by pm_law_told_by an_law_told_by cd_law_told_by ct_law_told_by), sl_law_told_by⟩)
    (h_l_law_is_int : K.lookup A_law_is_int = some ⟨oc_law_is_int, od_law_is_int, .func (PySem.W.fnOf "_law_is_int" "_law_is_int" (defArgs s_law_is_int) (defBody s_law_is_int) (defScope s_law_is_int) .none kV_law_is_int dc_law_is_int pm_law_is_int an_law_is_int cd_law_is_int ct_law_is_int), sl_law_is_int⟩)
    (h_l_law_are_ints : K.lookup A_law_are_ints = some ⟨oc_law_are_ints, od_law_are_ints, .func (PySem.W.fnOf "_law_are_ints" "_law_are_ints" (defArgs s_law_are_ints) (defBody s_law_are_ints) (defScope s_law_are_ints) .none kV_law_are_ints dc_law_are_ints pm_law_are_ints an_law_are_ints cd_law_are_ints ct_law_are_ints), sl_law_are_ints⟩)
    (h_l_law_abc : K.lookup A_law_abc = some ⟨oc_law_abc, od_law_abc, .func (PySem.W.fnOf "_law_abc" "_law_abc" (defArgs s_law_abc) (defBody s_law_abc) (defScope s_law_abc) .none kV_law_abc dc_law_abc pm_law_abc an_law_abc cd_law_abc ct_law_abc), sl_law_abc⟩)
    (h_l_law_periods : K.lookup A_law_periods = some ⟨oc_law_periods, od_law_periods, .func (PySem.W.fnOf "_law_periods" "_law_periods" (defArgs s_law_periods) (defBody s_law_periods) (defScope s_law_periods) .none kV_law_periods dc_law_periods pm_law_periods an_law_periods cd_law_periods ct_law_periods), sl_law_periods⟩)
    (h_l_law_local : K.lookup A_law_local = some ⟨oc_law_local, od_law_local, .func (PySem.W.fnOf "_law_local" "_law_local" (defArgs s_law_local) (defBody s_law_local) (defScope s_law_local) .none kV_law_local dc_law_local pm_law_local an_law_local cd_law_local ct_law_local), sl_law_local⟩)
    (h_l_law_asked : K.lookup A_law_asked = some ⟨oc_law_asked, od_law_asked, .func (PySem.W.fnOf "_law_asked" "_law_asked" (defArgs s_law_asked) (defBody s_law_asked) (defScope s_law_asked) .none kV_law_asked dc_law_asked pm_law_asked an_law_asked cd_law_asked ct_law_asked), sl_law_asked⟩)
    (h_l_law : K.lookup A_law = some ⟨oc_law, od_law, .func (PySem.W.fnOf "law" "law" (defArgs s_law) (defBody s_law) (defScope s_law) .none kV_law dc_law pm_law an_law cd_law ct_law), sl_law⟩)
    (h_c_is_integer : PySem.W.codeIn K cd_is_integer "is_integer" = true)
    (h_k_is_integer : PySem.W.keepIn K (.ref A_is_integer) = true)
    (h_c_is_word : PySem.W.codeIn K cd_is_word "is_word" = true)
    (h_k_is_word : PySem.W.keepIn K (.ref A_is_word) = true)
    (h_c_check_word : PySem.W.codeIn K cd_check_word "check_word" = true)
    (h_k_check_word : PySem.W.keepIn K (.ref A_check_word) = true)
    (h_c_border_row : PySem.W.codeIn K cd_border_row "border_row" = true)
    (h_k_border_row : PySem.W.keepIn K (.ref A_border_row) = true)
    (h_c_border_lengths : PySem.W.codeIn K cd_border_lengths "border_lengths" = true)
    (h_k_border_lengths : PySem.W.keepIn K (.ref A_border_lengths) = true)
    (h_c_periods_of : PySem.W.codeIn K cd_periods_of "periods_of" = true)
    (h_k_periods_of : PySem.W.keepIn K (.ref A_periods_of) = true)
    (h_c_periods : PySem.W.codeIn K cd_periods "periods" = true)
    (h_k_periods : PySem.W.keepIn K (.ref A_periods) = true)
    (h_c_repeats_about : PySem.W.codeIn K cd_repeats_about "repeats_about" = true)
    (h_k_repeats_about : PySem.W.keepIn K (.ref A_repeats_about) = true)
    (h_c_local_at : PySem.W.codeIn K cd_local_at "local_at" = true)
    (h_k_local_at : PySem.W.keepIn K (.ref A_local_at) = true)
    (h_c_local_period : PySem.W.codeIn K cd_local_period "local_period" = true)
    (h_k_local_period : PySem.W.keepIn K (.ref A_local_period) = true)
    (h_c_critical_cuts : PySem.W.codeIn K cd_critical_cuts "critical_cuts" = true)
    (h_k_critical_cuts : PySem.W.keepIn K (.ref A_critical_cuts) = true)
    (h_c_law_state : PySem.W.codeIn K cd_law_state "_law_state" = true)
    (h_k_law_state : PySem.W.keepIn K (.ref A_law_state) = true)
    (h_c_law_take : PySem.W.codeIn K cd_law_take "_law_take" = true)
    (h_k_law_take : PySem.W.keepIn K (.ref A_law_take) = true)
    (h_c_law_told_by : PySem.W.codeIn K cd_law_told_by "_law_told_by" = true)
    (h_k_law_told_by : PySem.W.keepIn K (.ref A_law_told_by) = true)
    (h_c_law_is_int : PySem.W.codeIn K cd_law_is_int "_law_is_int" = true)
    (h_k_law_is_int : PySem.W.keepIn K (.ref A_law_is_int) = true)
    (h_c_law_are_ints : PySem.W.codeIn K cd_law_are_ints "_law_are_ints" = true)
    (h_k_law_are_ints : PySem.W.keepIn K (.ref A_law_are_ints) = true)
    (h_c_law_abc : PySem.W.codeIn K cd_law_abc "_law_abc" = true)
    (h_k_law_abc : PySem.W.keepIn K (.ref A_law_abc) = true)
    (h_c_law_periods : PySem.W.codeIn K cd_law_periods "_law_periods" = true)
    (h_k_law_periods : PySem.W.keepIn K (.ref A_law_periods) = true)
    (h_c_law_local : PySem.W.codeIn K cd_law_local "_law_local" = true)
    (h_k_law_local : PySem.W.keepIn K (.ref A_law_local) = true)
    (h_c_law_asked : PySem.W.codeIn K cd_law_asked "_law_asked" = true)
    (h_k_law_asked : PySem.W.keepIn K (.ref A_law_asked) = true)
    (h_c_law : PySem.W.codeIn K cd_law "law" = true)
    (h_k_law : PySem.W.keepIn K (.ref A_law) = true)
    (h_xi_Malformed : PySem.W.excIn K A_Malformed [.type "ValueError", .type "Exception", .type "BaseException", .type "object"] "ValueError.__new__" = true)
    (h_kx_Malformed : PySem.W.keepIn K (.ref A_Malformed) = true)
    (h_sx_Malformed : PySem.W.subIn K (.ref A_Malformed) (.type "BaseException") = some true)
    (h_tx_Malformed : PySem.W.typeIn K (.ref A_Malformed) = some (.type "type"))
    (h_xg_Refused : PySem.W.findIn K (.ref A_Refused) "__getattribute__" = some (some (.builtin "BaseException.__getattribute__")))
    (h_xk_Refused : PySem.W.findIn K (.ref A_Refused) "__getattr__" = some none)
    (h_xs_Refused : PySem.W.subIn K (.ref A_Refused) (.type "BaseException") = some true)
    (h_xd_Refused : PySem.W.hasDictIn K A_Refused = true)
    (h_na_Refused_reason : PySem.W.findIn K (.ref A_Refused) "reason" = some none)
    (h_em_Refused_Refused : PySem.W.exmOne K (.ref A_Refused) (.ref A_Refused) = some true)
    (h_em_Malformed_Refused : PySem.W.exmOne K (.ref A_Malformed) (.ref A_Refused) = some false)
    (h_em_Fault_Refused : PySem.W.exmOne K (.ref A_Fault) (.ref A_Refused) = some false)
    (h_em_Refused_Malformed : PySem.W.exmOne K (.ref A_Refused) (.ref A_Malformed) = some false)
    (h_em_Malformed_Malformed : PySem.W.exmOne K (.ref A_Malformed) (.ref A_Malformed) = some true)
    (h_em_Fault_Malformed : PySem.W.exmOne K (.ref A_Fault) (.ref A_Malformed) = some false)
    : ∃ (T : Tb) (fd : FuncData), T.K = K ∧ (∀ (s : Shared) (u : Value), BindsTo s fd ⟨[u], []⟩ [("script", u)]) ∧ ∀ base : Heap, K.In base → base.Ns mainGlobals mg → FnOk PP w K mg base (L2.CX PP w) 47 fa fd ["script"] (sp T φ_law) := by
  have key : ∃ a : Ad, Facts K mg a := ⟨⟨A_is_integer, A_is_word, A_check_word, A_border_row, A_border_lengths, A_periods_of, A_periods, A_repeats_about, A_local_at, A_local_period, A_critical_cuts, A_law_state, A_law_take, A_law_told_by, A_law_is_int, A_law_are_ints, A_law_abc, A_law_periods, A_law_local, A_law_asked, A_law, A_Fault, A_Malformed, A_Refused⟩, ⟨⟨h, KX, G⟩, (seer_mk s1 s2 s3 s4 s5 s6 s7), (PySem.W.mg_of KX G h_m_is_integer), (fun0 h_l_is_integer h_c_is_integer h_k_is_integer), h_k_is_integer, (PySem.W.mg_of KX G h_m_is_word), (fun0 h_l_is_word h_c_is_word h_k_is_word), h_k_is_word, (PySem.W.mg_of KX G h_m_check_word), (fun0 h_l_check_word h_c_check_word h_k_check_word), h_k_check_word, (PySem.W.mg_of KX G h_m_border_row), (fun0 h_l_border_row h_c_border_row h_k_border_row), h_k_border_row, (PySem.W.mg_of KX G h_m_border_lengths), (fun0 h_l_border_lengths h_c_border_lengths h_k_border_lengths), h_k_border_lengths, (PySem.W.mg_of KX G h_m_periods_of), (fun0 h_l_periods_of h_c_periods_of h_k_periods_of), h_k_periods_of, (PySem.W.mg_of KX G h_m_periods), (fun0 h_l_periods h_c_periods h_k_periods), h_k_periods, (PySem.W.mg_of KX G h_m_repeats_about), (fun0 h_l_repeats_about h_c_repeats_about h_k_repeats_about), h_k_repeats_about, (PySem.W.mg_of KX G h_m_local_at), (fun0 h_l_local_at h_c_local_at h_k_local_at), h_k_local_at, (PySem.W.mg_of KX G h_m_local_period), (fun0 h_l_local_period h_c_local_period h_k_local_period), h_k_local_period, (PySem.W.mg_of KX G h_m_critical_cuts), (fun0 h_l_critical_cuts h_c_critical_cuts h_k_critical_cuts), h_k_critical_cuts, (PySem.W.mg_of KX G h_m__law_state), (fun0 h_l_law_state h_c_law_state h_k_law_state), h_k_law_state, (PySem.W.mg_of KX G h_m__law_take), (fun0 h_l_law_take h_c_law_take h_k_law_take), h_k_law_take, (PySem.W.mg_of KX G h_m__law_told_by), (fun0 h_l_law_told_by h_c_law_told_by h_k_law_told_by), h_k_law_told_by, (PySem.W.mg_of KX G h_m__law_is_int), (fun0 h_l_law_is_int h_c_law_is_int h_k_law_is_int), h_k_law_is_int, (PySem.W.mg_of KX G h_m__law_are_ints), (fun0 h_l_law_are_ints h_c_law_are_ints h_k_law_are_ints), h_k_law_are_ints, (PySem.W.mg_of KX G h_m__law_abc), (fun0 h_l_law_abc h_c_law_abc h_k_law_abc), h_k_law_abc, (PySem.W.mg_of KX G h_m__law_periods), (fun0 h_l_law_periods h_c_law_periods h_k_law_periods), h_k_law_periods, (PySem.W.mg_of KX G h_m__law_local), (fun0 h_l_law_local h_c_law_local h_k_law_local), h_k_law_local, (PySem.W.mg_of KX G h_m__law_asked), (fun0 h_l_law_asked h_c_law_asked h_k_law_asked), h_k_law_asked, (PySem.W.mg_of KX G h_m_law), (fun0 h_l_law h_c_law h_k_law), h_k_law, (PySem.W.mg_of KX G h_m_Fault), (PySem.W.mg_of KX G h_m_Malformed), (PySem.W.mg_of KX G h_m_Refused), ⟨_, PySem.W.mg_of KX G h_m_MOST_LONG, ⟨_, rfl⟩⟩, h_xi_Malformed, h_kx_Malformed, h_sx_Malformed, h_tx_Malformed, h_z_isinstance, h_z_int, h_z_bool, h_z_str, h_z_all, h_z_len, h_z_enumerate, h_z_tuple, h_z_range, h_z_min, h_z_max, h_z_abs, h_xg_Refused, h_xk_Refused, h_xs_Refused, h_xd_Refused, h_na_Refused_reason, h_em_Refused_Refused, h_em_Malformed_Refused, h_em_Fault_Refused, h_em_Refused_Malformed, h_em_Malformed_Malformed, h_em_Fault_Malformed⟩⟩
  obtain ⟨a, H⟩ := key
  have e := hmg.symm.trans H.m_law
  cases e
  obtain ⟨fd, F, _⟩ := o_law (w := w) (base := h) H
  refine ⟨TT K a, fd, rfl, fun s u => F.bindsA (ps := ["script"]) (fun _ _ _ _ _ _ us hl => match us, hl with | [_], _ => rfl) s [u] rfl, fun base _ _ => ?_⟩
  obtain ⟨fd2, F2, ok⟩ := o_law (w := w) (base := base) H
  obtain rfl : fd2 = fd := funD_one F2 F
  exact ok
end L2.S.W

set_option Elab.async false
set_option linter.all false
set_option maxRecDepth 100000
set_option maxHeartbeats 8000000
namespace L2.S.W
open PySem PySem.Spec PyProof.Rows L2 L2.S
structure Wd (w : List Nat) : Prop where
  low : ∀ c ∈ w, 97 ≤ c ∧ c ≤ 122
  len : w.length ≤ 60
theorem rngG {lo hi : Int} {a k : Nat} (h1 : lo = a) (h2 : (hi - lo).toNat = k) : rngD lo hi = (List.range k).map fun i => .int ((a + i : Nat) : Int) := by
  unfold rngD
  rw [h2, h1]
  refine List.map_congr_left fun i _ => ?_
  rw [Int.natCast_add]
theorem le_ch {a b : Nat} : pLe (.str [a]) (.str [b]) = some (.d (.bl (!decide ([b] < [a])))) := rfl
theorem q_isword {w : List Nat} (hw : Wd w) : φ_is_word [.val (.str w)] = .ok (.d (.bl true)) [] := by
  apply run_is_word
  unfold g_is_word
  have hl := hw.len
  simp -implicitDefEqProofs -dsimp only [↓Zaa, ↓Zab, ↓Zac, ↓Zad, ↓Zae, ↓Zaf, ↓Zag, ↓Zah, ↓Zai, ↓Zaj, ↓Zak, ↓Zal, ↓Zam, ↓Zan, ↓Zao, ↓Zap, ↓Zaq, ↓Zar, ↓Zas, ↓Zat, ↓Zau, ↓Zav, ↓Zaw, ↓Zax, ↓Zay, ↓Zaz, ↓Zba, ↓Zbb, ↓Zbc, ↓Zbd, ↓Zbe, ↓Zbf, ↓Zbg, ↓Zbh, ↓Zbi, ↓Zbj, ↓Zbk, ↓Zbl, ↓Zbm, ↓Zbn, ↓Zbo, ↓Zbp, ↓Zbq, ↓Zbr, ↓Zbs, ↓Zbt, ↓Zbu, ↓Zbv, ↓Zbw, ↓Zbx, ↓Zby, ↓Zbz, ↓Zca, ↓Zcb, ↓Zcc, ↓Zcd, ↓Zce, ↓Zcf, ↓Zcg, ↓Zch, ↓Zci, ↓Zcj, ↓Zck, ↓Zcl, ↓Zcm, ↓Zcn, ↓Zco, ↓Zcp, ↓Zcq, ↓Zcr, ↓Zcs, ↓Zct, ↓Zcu, ↓Zcv, ↓Zcw, ↓Zcx, ↓Zcy, ↓Zcz, ↓Zda, ↓Zdb, ↓Zdc, ↓Zdd, ↓Zde, ↓Zdf, ↓Zdg, ↓Zdh, ↓Zdi, ↓Zdj, ↓Zdk, ↓Zdl, ↓Zdm, ↓Zdn, ↓Zdo, ↓Zdp, ↓Zdq, ↓Zdr, ↓Zds, ↓Zdt, ↓Zdu, ↓Zdv, ↓Zdw, ↓Zdx, ↓Zdy, ↓Zdz, ↓Zea, ↓Zeb, ↓Zec, ↓Zed, ↓Zee, ↓Zef, ↓Zeg, ↓Zeh, ↓Zei, ↓Zej, ↓Zek, ↓Zel, ↓Zem, ↓Zen, ↓Zeo, ↓Zep, ↓Zeq, ↓Zer, ↓Zes, ↓Zet, ↓Zeu, ↓Zev, ↓Zew, ↓Zex, ↓Zey, ↓Zez, ↓Zfa, ↓Zfb, ↓Zfc, ↓Zfd, ↓Zfe, ↓Zff, ↓Zfg, ↓Zfh, ↓Zfi, ↓Zfj, ↓Zfk, ↓Zfl, ↓Zfm, ↓Zfn, ↓Zfo, ↓Zfp, ↓Zfq, ↓Zfr, ↓Zfs, ↓Zft, ↓Zfu, ↓Zfv, ↓Zfw, ↓Zfx, ↓Zfy, ↓Zfz, ↓Zga, ↓Zgb, ↓Zgc, ↓Zgd, ↓Zge, ↓Zgf, ↓Zgg, ↓Zgh, ↓Zgi, ↓Zgj, ↓Zgk, ↓Zgl, ↓Zgm, ↓Zgn, ↓Zgo, ↓Zgp, ↓Zgq, ↓Zgr, ↓Zgs, ↓Zgt, ↓Zgu, ↓Zgv, ↓Zgw, ↓Zgx, ↓Zgy, ↓Zgz, ↓Zha, ↓Zhb, ↓Zhc, ↓Zhd, ↓Zhe, ↓Zhf, ↓Zhg, ↓Zhh, ↓Zhi, ↓Zhj, ↓Zhk, ↓Zhl, ↓Zhm, ↓Zhn, ↓Zho, ↓Zhp, ↓Zhq, ↓Zhr, ↓Zhs, ↓Zht, ↓Zhu, ↓Zhv, ↓Zhw, ↓Zhx, ↓Zhy, ↓Zhz, ↓Zia, ↓Zib, ↓Zic, ↓Zid, ↓Zie, ↓Zif, ↓Zig, ↓Zih, ↓Zii, ↓Zij, ↓Zik, ↓Zil, ↓Zim, ↓Zin, ↓Zio, ↓Ziq, ↓Zir, ↓Zis, ↓Zit, ↓Ziu, ↓Ziv, ↓Ziw, ↓Zix, ↓Ziy, ↓Ziz, ↓Zja, ↓Zjb, ↓Zjc, ↓Zjd, ↓Zje, ↓Zjf, ↓Zjg, ↓Zjh, ↓Zji, ↓Zjj, ↓Zjk, ↓Zjl, ↓Zjm, ↓Zjn, ↓Zjo, ↓Zjp, ↓Zjq, ↓Zjr, ↓Zjs, ↓Zjt, ↓Zju, ↓Zjv, ↓Zjw, ↓Zjx, ↓Zjy, ↓Zjz, ↓Zka, ↓Zkb, ↓Zkc, ↓Zkd, ↓Zke, ↓Zkf, ↓Zkg, ↓Zkh, ↓Zki, ↓Zkj, ↓Zkk, ↓Zkl, ↓Zkm, ↓Zkn, ↓Zko, ↓Zkp, ↓Zkq, ↓Zkr, ↓Zks, ↓Zkt, ↓Zku, ↓Zkv, ↓Zkw, ↓Zkx, ↓Zky, ↓Zkz, reduceIte, if_true, if_false, Bool.false_eq_true, Bool.and_true, Bool.true_and, Bool.and_false, Bool.false_and, Bool.or_true, Bool.true_or, Bool.or_false, Bool.false_or, Int.cast_ofNat_Int, Zla, Zlb, beq_self_eq_true, Int.reduceBEq, Int.reduceLT, Int.reduceLE, Int.reduceEq, Int.reduceNeg, Nat.reduceLT, Zlc, Zld, Zle, Zlf, Zlg, Zlh, Zli, Zlj, Zlk, Zll, Zlm, Zln, Zlo, Zlp, Zlq, Zlr, Zls, Zlt, Zlu, Zlv, Zlw, Zlx, Zly, Zlz, Zma, Zmb, Zmc, Zmd, Zme, Zmf, Zmg, Zmh, Zmi, Zmj, Zmk, Zml, Zmm, Zmn, Zmo, Zmp, Zmq, Zmr, Zms, Zmt, Zmu, Zmv, Zmw, Zmx, Zmy, Zmz, Zna, Znb, Znc, Znd, Zne, Znf, Zng, Znh, Zni, Znj, Znk, Znl, Znm, Znn, Zno, List.lookup_nil, Znp, Znq, Option.map_some, Option.map_none, Option.bind_some, Option.bind_none, List.map_nil, List.map_cons, List.nil_append, List.cons_append, List.append_nil, List.length_cons, List.length_nil, Nat.reduceAdd, Nat.reduceLeDiff, Nat.reduceEqDiff, Nat.reduceBEq, decide_true, decide_false, Bool.not_true, Bool.not_false, Znr, Zns, Znt, Znu, Znv, Znw, Znx, Zny, Znz, Zoa, Zob, Zoc, Zod, Zoe, List.getElem?_cons_zero, List.getElem?_cons_succ, Zof, Zog, Zoh, Zoi, Zoj, Zok, Zol, Zom, Zon, Zoo, Zop, Zoq, Zor, Zos, Zot, Zou, Zov, Zow, Zox, Zoy, setX, Zoz, Zpa, Zpb, Int.ofNat_lt, Int.ofNat_le, Zpc, Zpd, Zpe, Zpf, Zpg, Zph]
  refine lc_map (l := w) (g := fun c => .str [c]) (fun _ => .bl true) rfl (by omega) (fun c hc => ?_) ?_
  · obtain ⟨h1, h2⟩ := hw.low c hc
    have e1 : (!decide ([c] < [97])) = true := by
      have : ¬ ([c] < [97]) := by rw [List.cons_lt_cons_iff]; simp; omega
      simp [this]
    have e2 : (!decide ([122] < [c])) = true := by
      have : ¬ ([122] < [c]) := by rw [List.cons_lt_cons_iff]; simp; omega
      simp [this]
    simp only [wipeE, List.set_cons_zero, List.set_cons_succ]
    simp -implicitDefEqProofs -dsimp only [↓Zaa, ↓Zab, ↓Zac, ↓Zad, ↓Zae, ↓Zaf, ↓Zag, ↓Zah, ↓Zai, ↓Zaj, ↓Zak, ↓Zal, ↓Zam, ↓Zan, ↓Zao, ↓Zap, ↓Zaq, ↓Zar, ↓Zas, ↓Zat, ↓Zau, ↓Zav, ↓Zaw, ↓Zax, ↓Zay, ↓Zaz, ↓Zba, ↓Zbb, ↓Zbc, ↓Zbd, ↓Zbe, ↓Zbf, ↓Zbg, ↓Zbh, ↓Zbi, ↓Zbj, ↓Zbk, ↓Zbl, ↓Zbm, ↓Zbn, ↓Zbo, ↓Zbp, ↓Zbq, ↓Zbr, ↓Zbs, ↓Zbt, ↓Zbu, ↓Zbv, ↓Zbw, ↓Zbx, ↓Zby, ↓Zbz, ↓Zca, ↓Zcb, ↓Zcc, ↓Zcd, ↓Zce, ↓Zcf, ↓Zcg, ↓Zch, ↓Zci, ↓Zcj, ↓Zck, ↓Zcl, ↓Zcm, ↓Zcn, ↓Zco, ↓Zcp, ↓Zcq, ↓Zcr, ↓Zcs, ↓Zct, ↓Zcu, ↓Zcv, ↓Zcw, ↓Zcx, ↓Zcy, ↓Zcz, ↓Zda, ↓Zdb, ↓Zdc, ↓Zdd, ↓Zde, ↓Zdf, ↓Zdg, ↓Zdh, ↓Zdi, ↓Zdj, ↓Zdk, ↓Zdl, ↓Zdm, ↓Zdn, ↓Zdo, ↓Zdp, ↓Zdq, ↓Zdr, ↓Zds, ↓Zdt, ↓Zdu, ↓Zdv, ↓Zdw, ↓Zdx, ↓Zdy, ↓Zdz, ↓Zea, ↓Zeb, ↓Zec, ↓Zed, ↓Zee, ↓Zef, ↓Zeg, ↓Zeh, ↓Zei, ↓Zej, ↓Zek, ↓Zel, ↓Zem, ↓Zen, ↓Zeo, ↓Zep, ↓Zeq, ↓Zer, ↓Zes, ↓Zet, ↓Zeu, ↓Zev, ↓Zew, ↓Zex, ↓Zey, ↓Zez, ↓Zfa, ↓Zfb, ↓Zfc, ↓Zfd, ↓Zfe, ↓Zff, ↓Zfg, ↓Zfh, ↓Zfi, ↓Zfj, ↓Zfk, ↓Zfl, ↓Zfm, ↓Zfn, ↓Zfo, ↓Zfp, ↓Zfq, ↓Zfr, ↓Zfs, ↓Zft, ↓Zfu, ↓Zfv, ↓Zfw, ↓Zfx, ↓Zfy, ↓Zfz, ↓Zga, ↓Zgb, ↓Zgc, ↓Zgd, ↓Zge, ↓Zgf, ↓Zgg, ↓Zgh, ↓Zgi, ↓Zgj, ↓Zgk, ↓Zgl, ↓Zgm, ↓Zgn, ↓Zgo, ↓Zgp, ↓Zgq, ↓Zgr, ↓Zgs, ↓Zgt, ↓Zgu, ↓Zgv, ↓Zgw, ↓Zgx, ↓Zgy, ↓Zgz, ↓Zha, ↓Zhb, ↓Zhc, ↓Zhd, ↓Zhe, ↓Zhf, ↓Zhg, ↓Zhh, ↓Zhi, ↓Zhj, ↓Zhk, ↓Zhl, ↓Zhm, ↓Zhn, ↓Zho, ↓Zhp, ↓Zhq, ↓Zhr, ↓Zhs, ↓Zht, ↓Zhu, ↓Zhv, ↓Zhw, ↓Zhx, ↓Zhy, ↓Zhz, ↓Zia, ↓Zib, ↓Zic, ↓Zid, ↓Zie, ↓Zif, ↓Zig, ↓Zih, ↓Zii, ↓Zij, ↓Zik, ↓Zil, ↓Zim, ↓Zin, ↓Zio, ↓Ziq, ↓Zir, ↓Zis, ↓Zit, ↓Ziu, ↓Ziv, ↓Ziw, ↓Zix, ↓Ziy, ↓Ziz, ↓Zja, ↓Zjb, ↓Zjc, ↓Zjd, ↓Zje, ↓Zjf, ↓Zjg, ↓Zjh, ↓Zji, ↓Zjj, ↓Zjk, ↓Zjl, ↓Zjm, ↓Zjn, ↓Zjo, ↓Zjp, ↓Zjq, ↓Zjr, ↓Zjs, ↓Zjt, ↓Zju, ↓Zjv, ↓Zjw, ↓Zjx, ↓Zjy, ↓Zjz, ↓Zka, ↓Zkb, ↓Zkc, ↓Zkd, ↓Zke, ↓Zkf, ↓Zkg, ↓Zkh, ↓Zki, ↓Zkj, ↓Zkk, ↓Zkl, ↓Zkm, ↓Zkn, ↓Zko, ↓Zkp, ↓Zkq, ↓Zkr, ↓Zks, ↓Zkt, ↓Zku, ↓Zkv, ↓Zkw, ↓Zkx, ↓Zky, ↓Zkz, reduceIte, if_true, if_false, Bool.false_eq_true, Bool.and_true, Bool.true_and, Bool.and_false, Bool.false_and, Bool.or_true, Bool.true_or, Bool.or_false, Bool.false_or, Int.cast_ofNat_Int, Zla, Zlb, beq_self_eq_true, Int.reduceBEq, Int.reduceLT, Int.reduceLE, Int.reduceEq, Int.reduceNeg, Nat.reduceLT, Zlc, Zld, Zle, Zlf, Zlg, Zlh, Zli, Zlj, Zlk, Zll, Zlm, Zln, Zlo, Zlp, Zlq, Zlr, Zls, Zlt, Zlu, Zlv, Zlw, Zlx, Zly, Zlz, Zma, Zmb, Zmc, Zmd, Zme, Zmf, Zmg, Zmh, Zmi, Zmj, Zmk, Zml, Zmm, Zmn, Zmo, Zmp, Zmq, Zmr, Zms, Zmt, Zmu, Zmv, Zmw, Zmx, Zmy, Zmz, Zna, Znb, Znc, Znd, Zne, Znf, Zng, Znh, Zni, Znj, Znk, Znl, Znm, Znn, Zno, List.lookup_nil, Znp, Znq, Option.map_some, Option.map_none, Option.bind_some, Option.bind_none, List.map_nil, List.map_cons, List.nil_append, List.cons_append, List.append_nil, List.length_cons, List.length_nil, Nat.reduceAdd, Nat.reduceLeDiff, Nat.reduceEqDiff, Nat.reduceBEq, decide_true, decide_false, Bool.not_true, Bool.not_false, Znr, Zns, Znt, Znu, Znv, Znw, Znx, Zny, Znz, Zoa, Zob, Zoc, Zod, Zoe, List.getElem?_cons_zero, List.getElem?_cons_succ, Zof, Zog, Zoh, Zoi, Zoj, Zok, Zol, Zom, Zon, Zoo, Zop, Zoq, Zor, Zos, Zot, Zou, Zov, Zow, Zox, Zoy, setX, Zoz, Zpa, Zpb, Int.ofNat_lt, Int.ofNat_le, Zpc, Zpd, Zpe, Zpf, Zpg, Zph, le_ch, e1, e2]
    exact ⟨rfl, rfl, trivial⟩
  · have e : bAll [.lst (w.map fun _ => .bl true)] = some (.d (.bl true)) := by
      rw [Zop (l := w) (f := fun _ => true)]
      simp
    simp -implicitDefEqProofs -dsimp only [↓Zaa, ↓Zab, ↓Zac, ↓Zad, ↓Zae, ↓Zaf, ↓Zag, ↓Zah, ↓Zai, ↓Zaj, ↓Zak, ↓Zal, ↓Zam, ↓Zan, ↓Zao, ↓Zap, ↓Zaq, ↓Zar, ↓Zas, ↓Zat, ↓Zau, ↓Zav, ↓Zaw, ↓Zax, ↓Zay, ↓Zaz, ↓Zba, ↓Zbb, ↓Zbc, ↓Zbd, ↓Zbe, ↓Zbf, ↓Zbg, ↓Zbh, ↓Zbi, ↓Zbj, ↓Zbk, ↓Zbl, ↓Zbm, ↓Zbn, ↓Zbo, ↓Zbp, ↓Zbq, ↓Zbr, ↓Zbs, ↓Zbt, ↓Zbu, ↓Zbv, ↓Zbw, ↓Zbx, ↓Zby, ↓Zbz, ↓Zca, ↓Zcb, ↓Zcc, ↓Zcd, ↓Zce, ↓Zcf, ↓Zcg, ↓Zch, ↓Zci, ↓Zcj, ↓Zck, ↓Zcl, ↓Zcm, ↓Zcn, ↓Zco, ↓Zcp, ↓Zcq, ↓Zcr, ↓Zcs, ↓Zct, ↓Zcu, ↓Zcv, ↓Zcw, ↓Zcx, ↓Zcy, ↓Zcz, ↓Zda, ↓Zdb, ↓Zdc, ↓Zdd, ↓Zde, ↓Zdf, ↓Zdg, ↓Zdh, ↓Zdi, ↓Zdj, ↓Zdk, ↓Zdl, ↓Zdm, ↓Zdn, ↓Zdo, ↓Zdp, ↓Zdq, ↓Zdr, ↓Zds, ↓Zdt, ↓Zdu, ↓Zdv, ↓Zdw, ↓Zdx, ↓Zdy, ↓Zdz, ↓Zea, ↓Zeb, ↓Zec, ↓Zed, ↓Zee, ↓Zef, ↓Zeg, ↓Zeh, ↓Zei, ↓Zej, ↓Zek, ↓Zel, ↓Zem, ↓Zen, ↓Zeo, ↓Zep, ↓Zeq, ↓Zer, ↓Zes, ↓Zet, ↓Zeu, ↓Zev, ↓Zew, ↓Zex, ↓Zey, ↓Zez, ↓Zfa, ↓Zfb, ↓Zfc, ↓Zfd, ↓Zfe, ↓Zff, ↓Zfg, ↓Zfh, ↓Zfi, ↓Zfj, ↓Zfk, ↓Zfl, ↓Zfm, ↓Zfn, ↓Zfo, ↓Zfp, ↓Zfq, ↓Zfr, ↓Zfs, ↓Zft, ↓Zfu, ↓Zfv, ↓Zfw, ↓Zfx, ↓Zfy, ↓Zfz, ↓Zga, ↓Zgb, ↓Zgc, ↓Zgd, ↓Zge, ↓Zgf, ↓Zgg, ↓Zgh, ↓Zgi, ↓Zgj, ↓Zgk, ↓Zgl, ↓Zgm, ↓Zgn, ↓Zgo, ↓Zgp, ↓Zgq, ↓Zgr, ↓Zgs, ↓Zgt, ↓Zgu, ↓Zgv, ↓Zgw, ↓Zgx, ↓Zgy, ↓Zgz, ↓Zha, ↓Zhb, ↓Zhc, ↓Zhd, ↓Zhe, ↓Zhf, ↓Zhg, ↓Zhh, ↓Zhi, ↓Zhj, ↓Zhk, ↓Zhl, ↓Zhm, ↓Zhn, ↓Zho, ↓Zhp, ↓Zhq, ↓Zhr, ↓Zhs, ↓Zht, ↓Zhu, ↓Zhv, ↓Zhw, ↓Zhx, ↓Zhy, ↓Zhz, ↓Zia, ↓Zib, ↓Zic, ↓Zid, ↓Zie, ↓Zif, ↓Zig, ↓Zih, ↓Zii, ↓Zij, ↓Zik, ↓Zil, ↓Zim, ↓Zin, ↓Zio, ↓Ziq, ↓Zir, ↓Zis, ↓Zit, ↓Ziu, ↓Ziv, ↓Ziw, ↓Zix, ↓Ziy, ↓Ziz, ↓Zja, ↓Zjb, ↓Zjc, ↓Zjd, ↓Zje, ↓Zjf, ↓Zjg, ↓Zjh, ↓Zji, ↓Zjj, ↓Zjk, ↓Zjl, ↓Zjm, ↓Zjn, ↓Zjo, ↓Zjp, ↓Zjq, ↓Zjr, ↓Zjs, ↓Zjt, ↓Zju, ↓Zjv, ↓Zjw, ↓Zjx, ↓Zjy, ↓Zjz, ↓Zka, ↓Zkb, ↓Zkc, ↓Zkd, ↓Zke, ↓Zkf, ↓Zkg, ↓Zkh, ↓Zki, ↓Zkj, ↓Zkk, ↓Zkl, ↓Zkm, ↓Zkn, ↓Zko, ↓Zkp, ↓Zkq, ↓Zkr, ↓Zks, ↓Zkt, ↓Zku, ↓Zkv, ↓Zkw, ↓Zkx, ↓Zky, ↓Zkz, reduceIte, if_true, if_false, Bool.false_eq_true, Bool.and_true, Bool.true_and, Bool.and_false, Bool.false_and, Bool.or_true, Bool.true_or, Bool.or_false, Bool.false_or, Int.cast_ofNat_Int, Zla, Zlb, beq_self_eq_true, Int.reduceBEq, Int.reduceLT, Int.reduceLE, Int.reduceEq, Int.reduceNeg, Nat.reduceLT, Zlc, Zld, Zle, Zlf, Zlg, Zlh, Zli, Zlj, Zlk, Zll, Zlm, Zln, Zlo, Zlp, Zlq, Zlr, Zls, Zlt, Zlu, Zlv, Zlw, Zlx, Zly, Zlz, Zma, Zmb, Zmc, Zmd, Zme, Zmf, Zmg, Zmh, Zmi, Zmj, Zmk, Zml, Zmm, Zmn, Zmo, Zmp, Zmq, Zmr, Zms, Zmt, Zmu, Zmv, Zmw, Zmx, Zmy, Zmz, Zna, Znb, Znc, Znd, Zne, Znf, Zng, Znh, Zni, Znj, Znk, Znl, Znm, Znn, Zno, List.lookup_nil, Znp, Znq, Option.map_some, Option.map_none, Option.bind_some, Option.bind_none, List.map_nil, List.map_cons, List.nil_append, List.cons_append, List.append_nil, List.length_cons, List.length_nil, Nat.reduceAdd, Nat.reduceLeDiff, Nat.reduceEqDiff, Nat.reduceBEq, decide_true, decide_false, Bool.not_true, Bool.not_false, Znr, Zns, Znt, Znu, Znv, Znw, Znx, Zny, Znz, Zoa, Zob, Zoc, Zod, Zoe, List.getElem?_cons_zero, List.getElem?_cons_succ, Zof, Zog, Zoh, Zoi, Zoj, Zok, Zol, Zom, Zon, Zoo, Zop, Zoq, Zor, Zos, Zot, Zou, Zov, Zow, Zox, Zoy, setX, Zoz, Zpa, Zpb, Int.ofNat_lt, Int.ofNat_le, Zpc, Zpd, Zpe, Zpf, Zpg, Zph, e]
theorem q_check {w : List Nat} (hw : Wd w) : φ_check_word [.val (.str w)] = .ok (.d .non) [] := by
  apply run_check_word
  unfold g_check_word
  have hl := hw.len
  have hl2 : w.length ≤ 16777216 := by omega
  have e1 : decide (60 < (w.length : Int)) = false := decide_eq_false (by omega)
  simp -implicitDefEqProofs -dsimp only [↓Zaa, ↓Zab, ↓Zac, ↓Zad, ↓Zae, ↓Zaf, ↓Zag, ↓Zah, ↓Zai, ↓Zaj, ↓Zak, ↓Zal, ↓Zam, ↓Zan, ↓Zao, ↓Zap, ↓Zaq, ↓Zar, ↓Zas, ↓Zat, ↓Zau, ↓Zav, ↓Zaw, ↓Zax, ↓Zay, ↓Zaz, ↓Zba, ↓Zbb, ↓Zbc, ↓Zbd, ↓Zbe, ↓Zbf, ↓Zbg, ↓Zbh, ↓Zbi, ↓Zbj, ↓Zbk, ↓Zbl, ↓Zbm, ↓Zbn, ↓Zbo, ↓Zbp, ↓Zbq, ↓Zbr, ↓Zbs, ↓Zbt, ↓Zbu, ↓Zbv, ↓Zbw, ↓Zbx, ↓Zby, ↓Zbz, ↓Zca, ↓Zcb, ↓Zcc, ↓Zcd, ↓Zce, ↓Zcf, ↓Zcg, ↓Zch, ↓Zci, ↓Zcj, ↓Zck, ↓Zcl, ↓Zcm, ↓Zcn, ↓Zco, ↓Zcp, ↓Zcq, ↓Zcr, ↓Zcs, ↓Zct, ↓Zcu, ↓Zcv, ↓Zcw, ↓Zcx, ↓Zcy, ↓Zcz, ↓Zda, ↓Zdb, ↓Zdc, ↓Zdd, ↓Zde, ↓Zdf, ↓Zdg, ↓Zdh, ↓Zdi, ↓Zdj, ↓Zdk, ↓Zdl, ↓Zdm, ↓Zdn, ↓Zdo, ↓Zdp, ↓Zdq, ↓Zdr, ↓Zds, ↓Zdt, ↓Zdu, ↓Zdv, ↓Zdw, ↓Zdx, ↓Zdy, ↓Zdz, ↓Zea, ↓Zeb, ↓Zec, ↓Zed, ↓Zee, ↓Zef, ↓Zeg, ↓Zeh, ↓Zei, ↓Zej, ↓Zek, ↓Zel, ↓Zem, ↓Zen, ↓Zeo, ↓Zep, ↓Zeq, ↓Zer, ↓Zes, ↓Zet, ↓Zeu, ↓Zev, ↓Zew, ↓Zex, ↓Zey, ↓Zez, ↓Zfa, ↓Zfb, ↓Zfc, ↓Zfd, ↓Zfe, ↓Zff, ↓Zfg, ↓Zfh, ↓Zfi, ↓Zfj, ↓Zfk, ↓Zfl, ↓Zfm, ↓Zfn, ↓Zfo, ↓Zfp, ↓Zfq, ↓Zfr, ↓Zfs, ↓Zft, ↓Zfu, ↓Zfv, ↓Zfw, ↓Zfx, ↓Zfy, ↓Zfz, ↓Zga, ↓Zgb, ↓Zgc, ↓Zgd, ↓Zge, ↓Zgf, ↓Zgg, ↓Zgh, ↓Zgi, ↓Zgj, ↓Zgk, ↓Zgl, ↓Zgm, ↓Zgn, ↓Zgo, ↓Zgp, ↓Zgq, ↓Zgr, ↓Zgs, ↓Zgt, ↓Zgu, ↓Zgv, ↓Zgw, ↓Zgx, ↓Zgy, ↓Zgz, ↓Zha, ↓Zhb, ↓Zhc, ↓Zhd, ↓Zhe, ↓Zhf, ↓Zhg, ↓Zhh, ↓Zhi, ↓Zhj, ↓Zhk, ↓Zhl, ↓Zhm, ↓Zhn, ↓Zho, ↓Zhp, ↓Zhq, ↓Zhr, ↓Zhs, ↓Zht, ↓Zhu, ↓Zhv, ↓Zhw, ↓Zhx, ↓Zhy, ↓Zhz, ↓Zia, ↓Zib, ↓Zic, ↓Zid, ↓Zie, ↓Zif, ↓Zig, ↓Zih, ↓Zii, ↓Zij, ↓Zik, ↓Zil, ↓Zim, ↓Zin, ↓Zio, ↓Ziq, ↓Zir, ↓Zis, ↓Zit, ↓Ziu, ↓Ziv, ↓Ziw, ↓Zix, ↓Ziy, ↓Ziz, ↓Zja, ↓Zjb, ↓Zjc, ↓Zjd, ↓Zje, ↓Zjf, ↓Zjg, ↓Zjh, ↓Zji, ↓Zjj, ↓Zjk, ↓Zjl, ↓Zjm, ↓Zjn, ↓Zjo, ↓Zjp, ↓Zjq, ↓Zjr, ↓Zjs, ↓Zjt, ↓Zju, ↓Zjv, ↓Zjw, ↓Zjx, ↓Zjy, ↓Zjz, ↓Zka, ↓Zkb, ↓Zkc, ↓Zkd, ↓Zke, ↓Zkf, ↓Zkg, ↓Zkh, ↓Zki, ↓Zkj, ↓Zkk, ↓Zkl, ↓Zkm, ↓Zkn, ↓Zko, ↓Zkp, ↓Zkq, ↓Zkr, ↓Zks, ↓Zkt, ↓Zku, ↓Zkv, ↓Zkw, ↓Zkx, ↓Zky, ↓Zkz, reduceIte, if_true, if_false, Bool.false_eq_true, Bool.and_true, Bool.true_and, Bool.and_false, Bool.false_and, Bool.or_true, Bool.true_or, Bool.or_false, Bool.false_or, Int.cast_ofNat_Int, Zla, Zlb, beq_self_eq_true, Int.reduceBEq, Int.reduceLT, Int.reduceLE, Int.reduceEq, Int.reduceNeg, Nat.reduceLT, Zlc, Zld, Zle, Zlf, Zlg, Zlh, Zli, Zlj, Zlk, Zll, Zlm, Zln, Zlo, Zlp, Zlq, Zlr, Zls, Zlt, Zlu, Zlv, Zlw, Zlx, Zly, Zlz, Zma, Zmb, Zmc, Zmd, Zme, Zmf, Zmg, Zmh, Zmi, Zmj, Zmk, Zml, Zmm, Zmn, Zmo, Zmp, Zmq, Zmr, Zms, Zmt, Zmu, Zmv, Zmw, Zmx, Zmy, Zmz, Zna, Znb, Znc, Znd, Zne, Znf, Zng, Znh, Zni, Znj, Znk, Znl, Znm, Znn, Zno, List.lookup_nil, Znp, Znq, Option.map_some, Option.map_none, Option.bind_some, Option.bind_none, List.map_nil, List.map_cons, List.nil_append, List.cons_append, List.append_nil, List.length_cons, List.length_nil, Nat.reduceAdd, Nat.reduceLeDiff, Nat.reduceEqDiff, Nat.reduceBEq, decide_true, decide_false, Bool.not_true, Bool.not_false, Znr, Zns, Znt, Znu, Znv, Znw, Znx, Zny, Znz, Zoa, Zob, Zoc, Zod, Zoe, List.getElem?_cons_zero, List.getElem?_cons_succ, Zof, Zog, Zoh, Zoi, Zoj, Zok, Zol, Zom, Zon, Zoo, Zop, Zoq, Zor, Zos, Zot, Zou, Zov, Zow, Zox, Zoy, setX, Zoz, Zpa, Zpb, Int.ofNat_lt, Int.ofNat_le, Zpc, Zpd, Zpe, Zpf, Zpg, Zph, q_isword hw, bLen_s hl2, e1]
abbrev perD (w : List Nat) : List D := ((List.range w.length).filter fun i => decide (Per w (i + 1))).map fun i => .int ((1 + i : Nat) : Int)
theorem q_pers {w : List Nat} (hw : Wd w) : φ_periods_of [.val (.str w)] = .ok (.o (.l (perD w))) [] := by
  apply run_periods_of
  unfold g_periods_of
  have hl := hw.len
  have hl2 : w.length ≤ 16777216 := by omega
  have s1 : smI (1 : Int) = true := smI_ok (n := 1) (by decide)
  have s2 : smI ((w.length : Int) + 1) = true := by rw [show (w.length : Int) + 1 = ((w.length + 1 : Nat) : Int) by omega]; exact smI_ok (by omega)
  simp -implicitDefEqProofs -dsimp only [↓Zaa, ↓Zab, ↓Zac, ↓Zad, ↓Zae, ↓Zaf, ↓Zag, ↓Zah, ↓Zai, ↓Zaj, ↓Zak, ↓Zal, ↓Zam, ↓Zan, ↓Zao, ↓Zap, ↓Zaq, ↓Zar, ↓Zas, ↓Zat, ↓Zau, ↓Zav, ↓Zaw, ↓Zax, ↓Zay, ↓Zaz, ↓Zba, ↓Zbb, ↓Zbc, ↓Zbd, ↓Zbe, ↓Zbf, ↓Zbg, ↓Zbh, ↓Zbi, ↓Zbj, ↓Zbk, ↓Zbl, ↓Zbm, ↓Zbn, ↓Zbo, ↓Zbp, ↓Zbq, ↓Zbr, ↓Zbs, ↓Zbt, ↓Zbu, ↓Zbv, ↓Zbw, ↓Zbx, ↓Zby, ↓Zbz, ↓Zca, ↓Zcb, ↓Zcc, ↓Zcd, ↓Zce, ↓Zcf, ↓Zcg, ↓Zch, ↓Zci, ↓Zcj, ↓Zck, ↓Zcl, ↓Zcm, ↓Zcn, ↓Zco, ↓Zcp, ↓Zcq, ↓Zcr, ↓Zcs, ↓Zct, ↓Zcu, ↓Zcv, ↓Zcw, ↓Zcx, ↓Zcy, ↓Zcz, ↓Zda, ↓Zdb, ↓Zdc, ↓Zdd, ↓Zde, ↓Zdf, ↓Zdg, ↓Zdh, ↓Zdi, ↓Zdj, ↓Zdk, ↓Zdl, ↓Zdm, ↓Zdn, ↓Zdo, ↓Zdp, ↓Zdq, ↓Zdr, ↓Zds, ↓Zdt, ↓Zdu, ↓Zdv, ↓Zdw, ↓Zdx, ↓Zdy, ↓Zdz, ↓Zea, ↓Zeb, ↓Zec, ↓Zed, ↓Zee, ↓Zef, ↓Zeg, ↓Zeh, ↓Zei, ↓Zej, ↓Zek, ↓Zel, ↓Zem, ↓Zen, ↓Zeo, ↓Zep, ↓Zeq, ↓Zer, ↓Zes, ↓Zet, ↓Zeu, ↓Zev, ↓Zew, ↓Zex, ↓Zey, ↓Zez, ↓Zfa, ↓Zfb, ↓Zfc, ↓Zfd, ↓Zfe, ↓Zff, ↓Zfg, ↓Zfh, ↓Zfi, ↓Zfj, ↓Zfk, ↓Zfl, ↓Zfm, ↓Zfn, ↓Zfo, ↓Zfp, ↓Zfq, ↓Zfr, ↓Zfs, ↓Zft, ↓Zfu, ↓Zfv, ↓Zfw, ↓Zfx, ↓Zfy, ↓Zfz, ↓Zga, ↓Zgb, ↓Zgc, ↓Zgd, ↓Zge, ↓Zgf, ↓Zgg, ↓Zgh, ↓Zgi, ↓Zgj, ↓Zgk, ↓Zgl, ↓Zgm, ↓Zgn, ↓Zgo, ↓Zgp, ↓Zgq, ↓Zgr, ↓Zgs, ↓Zgt, ↓Zgu, ↓Zgv, ↓Zgw, ↓Zgx, ↓Zgy, ↓Zgz, ↓Zha, ↓Zhb, ↓Zhc, ↓Zhd, ↓Zhe, ↓Zhf, ↓Zhg, ↓Zhh, ↓Zhi, ↓Zhj, ↓Zhk, ↓Zhl, ↓Zhm, ↓Zhn, ↓Zho, ↓Zhp, ↓Zhq, ↓Zhr, ↓Zhs, ↓Zht, ↓Zhu, ↓Zhv, ↓Zhw, ↓Zhx, ↓Zhy, ↓Zhz, ↓Zia, ↓Zib, ↓Zic, ↓Zid, ↓Zie, ↓Zif, ↓Zig, ↓Zih, ↓Zii, ↓Zij, ↓Zik, ↓Zil, ↓Zim, ↓Zin, ↓Zio, ↓Ziq, ↓Zir, ↓Zis, ↓Zit, ↓Ziu, ↓Ziv, ↓Ziw, ↓Zix, ↓Ziy, ↓Ziz, ↓Zja, ↓Zjb, ↓Zjc, ↓Zjd, ↓Zje, ↓Zjf, ↓Zjg, ↓Zjh, ↓Zji, ↓Zjj, ↓Zjk, ↓Zjl, ↓Zjm, ↓Zjn, ↓Zjo, ↓Zjp, ↓Zjq, ↓Zjr, ↓Zjs, ↓Zjt, ↓Zju, ↓Zjv, ↓Zjw, ↓Zjx, ↓Zjy, ↓Zjz, ↓Zka, ↓Zkb, ↓Zkc, ↓Zkd, ↓Zke, ↓Zkf, ↓Zkg, ↓Zkh, ↓Zki, ↓Zkj, ↓Zkk, ↓Zkl, ↓Zkm, ↓Zkn, ↓Zko, ↓Zkp, ↓Zkq, ↓Zkr, ↓Zks, ↓Zkt, ↓Zku, ↓Zkv, ↓Zkw, ↓Zkx, ↓Zky, ↓Zkz, reduceIte, if_true, if_false, Bool.false_eq_true, Bool.and_true, Bool.true_and, Bool.and_false, Bool.false_and, Bool.or_true, Bool.true_or, Bool.or_false, Bool.false_or, Int.cast_ofNat_Int, Zla, Zlb, beq_self_eq_true, Int.reduceBEq, Int.reduceLT, Int.reduceLE, Int.reduceEq, Int.reduceNeg, Nat.reduceLT, Zlc, Zld, Zle, Zlf, Zlg, Zlh, Zli, Zlj, Zlk, Zll, Zlm, Zln, Zlo, Zlp, Zlq, Zlr, Zls, Zlt, Zlu, Zlv, Zlw, Zlx, Zly, Zlz, Zma, Zmb, Zmc, Zmd, Zme, Zmf, Zmg, Zmh, Zmi, Zmj, Zmk, Zml, Zmm, Zmn, Zmo, Zmp, Zmq, Zmr, Zms, Zmt, Zmu, Zmv, Zmw, Zmx, Zmy, Zmz, Zna, Znb, Znc, Znd, Zne, Znf, Zng, Znh, Zni, Znj, Znk, Znl, Znm, Znn, Zno, List.lookup_nil, Znp, Znq, Option.map_some, Option.map_none, Option.bind_some, Option.bind_none, List.map_nil, List.map_cons, List.nil_append, List.cons_append, List.append_nil, List.length_cons, List.length_nil, Nat.reduceAdd, Nat.reduceLeDiff, Nat.reduceEqDiff, Nat.reduceBEq, decide_true, decide_false, Bool.not_true, Bool.not_false, Znr, Zns, Znt, Znu, Znv, Znw, Znx, Zny, Znz, Zoa, Zob, Zoc, Zod, Zoe, List.getElem?_cons_zero, List.getElem?_cons_succ, Zof, Zog, Zoh, Zoi, Zoj, Zok, Zol, Zom, Zon, Zoo, Zop, Zoq, Zor, Zos, Zot, Zou, Zov, Zow, Zox, Zoy, setX, Zoz, Zpa, Zpb, Int.ofNat_lt, Int.ofNat_le, Zpc, Zpd, Zpe, Zpf, Zpg, Zph, bLen_s hl2, s1, s2]
  rw [rngG (lo := 1) (a := 1) (k := w.length) rfl (by omega)]
  refine lc_filter (l := List.range w.length) (g := fun i => .int ((1 + i : Nat) : Int)) (fun i => decide (Per w (i + 1))) (fun i => .int ((1 + i : Nat) : Int)) rfl (by simp; omega) (fun i hi => ?_) ?_
  · have hi := List.mem_range.mp hi
    simp only [wipeE, List.set_cons_zero, List.set_cons_succ]
    have c1 : cut w (some ((1 + i : Nat) : Int)) none = w.drop (1 + i) := Zox
    have c2 : cut w none (some ((w.length : Int) - ((1 + i : Nat) : Int))) = w.take (w.length - (1 + i)) := by
      rw [show (w.length : Int) - ((1 + i : Nat) : Int) = ((w.length - (1 + i) : Nat) : Int) by omega]
      exact Zow
    have e : (w.drop (1 + i) == w.take (w.length - (1 + i))) = decide (Per w (i + 1)) := by
      rw [Bool.eq_iff_iff, beq_iff_eq, decide_eq_true_iff, Nat.add_comm 1 i]
      exact per_slice
    simp -implicitDefEqProofs -dsimp only [↓Zaa, ↓Zab, ↓Zac, ↓Zad, ↓Zae, ↓Zaf, ↓Zag, ↓Zah, ↓Zai, ↓Zaj, ↓Zak, ↓Zal, ↓Zam, ↓Zan, ↓Zao, ↓Zap, ↓Zaq, ↓Zar, ↓Zas, ↓Zat, ↓Zau, ↓Zav, ↓Zaw, ↓Zax, ↓Zay, ↓Zaz, ↓Zba, ↓Zbb, ↓Zbc, ↓Zbd, ↓Zbe, ↓Zbf, ↓Zbg, ↓Zbh, ↓Zbi, ↓Zbj, ↓Zbk, ↓Zbl, ↓Zbm, ↓Zbn, ↓Zbo, ↓Zbp, ↓Zbq, ↓Zbr, ↓Zbs, ↓Zbt, ↓Zbu, ↓Zbv, ↓Zbw, ↓Zbx, ↓Zby, ↓Zbz, ↓Zca, ↓Zcb, ↓Zcc, ↓Zcd, ↓Zce, ↓Zcf, ↓Zcg, ↓Zch, ↓Zci, ↓Zcj, ↓Zck, ↓Zcl, ↓Zcm, ↓Zcn, ↓Zco, ↓Zcp, ↓Zcq, ↓Zcr, ↓Zcs, ↓Zct, ↓Zcu, ↓Zcv, ↓Zcw, ↓Zcx, ↓Zcy, ↓Zcz, ↓Zda, ↓Zdb, ↓Zdc, ↓Zdd, ↓Zde, ↓Zdf, ↓Zdg, ↓Zdh, ↓Zdi, ↓Zdj, ↓Zdk, ↓Zdl, ↓Zdm, ↓Zdn, ↓Zdo, ↓Zdp, ↓Zdq, ↓Zdr, ↓Zds, ↓Zdt, ↓Zdu, ↓Zdv, ↓Zdw, ↓Zdx, ↓Zdy, ↓Zdz, ↓Zea, ↓Zeb, ↓Zec, ↓Zed, ↓Zee, ↓Zef, ↓Zeg, ↓Zeh, ↓Zei, ↓Zej, ↓Zek, ↓Zel, ↓Zem, ↓Zen, ↓Zeo, ↓Zep, ↓Zeq, ↓Zer, ↓Zes, ↓Zet, ↓Zeu, ↓Zev, ↓Zew, ↓Zex, ↓Zey, ↓Zez, ↓Zfa, ↓Zfb, ↓Zfc, ↓Zfd, ↓Zfe, ↓Zff, ↓Zfg, ↓Zfh, ↓Zfi, ↓Zfj, ↓Zfk, ↓Zfl, ↓Zfm, ↓Zfn, ↓Zfo, ↓Zfp, ↓Zfq, ↓Zfr, ↓Zfs, ↓Zft, ↓Zfu, ↓Zfv, ↓Zfw, ↓Zfx, ↓Zfy, ↓Zfz, ↓Zga, ↓Zgb, ↓Zgc, ↓Zgd, ↓Zge, ↓Zgf, ↓Zgg, ↓Zgh, ↓Zgi, ↓Zgj, ↓Zgk, ↓Zgl, ↓Zgm, ↓Zgn, ↓Zgo, ↓Zgp, ↓Zgq, ↓Zgr, ↓Zgs, ↓Zgt, ↓Zgu, ↓Zgv, ↓Zgw, ↓Zgx, ↓Zgy, ↓Zgz, ↓Zha, ↓Zhb, ↓Zhc, ↓Zhd, ↓Zhe, ↓Zhf, ↓Zhg, ↓Zhh, ↓Zhi, ↓Zhj, ↓Zhk, ↓Zhl, ↓Zhm, ↓Zhn, ↓Zho, ↓Zhp, ↓Zhq, ↓Zhr, ↓Zhs, ↓Zht, ↓Zhu, ↓Zhv, ↓Zhw, ↓Zhx, ↓Zhy, ↓Zhz, ↓Zia, ↓Zib, ↓Zic, ↓Zid, ↓Zie, ↓Zif, ↓Zig, ↓Zih, ↓Zii, ↓Zij, ↓Zik, ↓Zil, ↓Zim, ↓Zin, ↓Zio, ↓Ziq, ↓Zir, ↓Zis, ↓Zit, ↓Ziu, ↓Ziv, ↓Ziw, ↓Zix, ↓Ziy, ↓Ziz, ↓Zja, ↓Zjb, ↓Zjc, ↓Zjd, ↓Zje, ↓Zjf, ↓Zjg, ↓Zjh, ↓Zji, ↓Zjj, ↓Zjk, ↓Zjl, ↓Zjm, ↓Zjn, ↓Zjo, ↓Zjp, ↓Zjq, ↓Zjr, ↓Zjs, ↓Zjt, ↓Zju, ↓Zjv, ↓Zjw, ↓Zjx, ↓Zjy, ↓Zjz, ↓Zka, ↓Zkb, ↓Zkc, ↓Zkd, ↓Zke, ↓Zkf, ↓Zkg, ↓Zkh, ↓Zki, ↓Zkj, ↓Zkk, ↓Zkl, ↓Zkm, ↓Zkn, ↓Zko, ↓Zkp, ↓Zkq, ↓Zkr, ↓Zks, ↓Zkt, ↓Zku, ↓Zkv, ↓Zkw, ↓Zkx, ↓Zky, ↓Zkz, reduceIte, if_true, if_false, Bool.false_eq_true, Bool.and_true, Bool.true_and, Bool.and_false, Bool.false_and, Bool.or_true, Bool.true_or, Bool.or_false, Bool.false_or, Int.cast_ofNat_Int, Zla, Zlb, beq_self_eq_true, Int.reduceBEq, Int.reduceLT, Int.reduceLE, Int.reduceEq, Int.reduceNeg, Nat.reduceLT, Zlc, Zld, Zle, Zlf, Zlg, Zlh, Zli, Zlj, Zlk, Zll, Zlm, Zln, Zlo, Zlp, Zlq, Zlr, Zls, Zlt, Zlu, Zlv, Zlw, Zlx, Zly, Zlz, Zma, Zmb, Zmc, Zmd, Zme, Zmf, Zmg, Zmh, Zmi, Zmj, Zmk, Zml, Zmm, Zmn, Zmo, Zmp, Zmq, Zmr, Zms, Zmt, Zmu, Zmv, Zmw, Zmx, Zmy, Zmz, Zna, Znb, Znc, Znd, Zne, Znf, Zng, Znh, Zni, Znj, Znk, Znl, Znm, Znn, Zno, List.lookup_nil, Znp, Znq, Option.map_some, Option.map_none, Option.bind_some, Option.bind_none, List.map_nil, List.map_cons, List.nil_append, List.cons_append, List.append_nil, List.length_cons, List.length_nil, Nat.reduceAdd, Nat.reduceLeDiff, Nat.reduceEqDiff, Nat.reduceBEq, decide_true, decide_false, Bool.not_true, Bool.not_false, Znr, Zns, Znt, Znu, Znv, Znw, Znx, Zny, Znz, Zoa, Zob, Zoc, Zod, Zoe, List.getElem?_cons_zero, List.getElem?_cons_succ, Zof, Zog, Zoh, Zoi, Zoj, Zok, Zol, Zom, Zon, Zoo, Zop, Zoq, Zor, Zos, Zot, Zou, Zov, Zow, Zox, Zoy, setX, Zoz, Zpa, Zpb, Int.ofNat_lt, Int.ofNat_le, Zpc, Zpd, Zpe, Zpf, Zpg, Zph, slD_s hl2, ↓c1, ↓c2, bLen_s hl2, e]
    by_cases h : Per w (i + 1)
    · have e2 : decide (Per w (i + 1)) = true := decide_eq_true h
      simp -implicitDefEqProofs -dsimp only [↓Zaa, ↓Zab, ↓Zac, ↓Zad, ↓Zae, ↓Zaf, ↓Zag, ↓Zah, ↓Zai, ↓Zaj, ↓Zak, ↓Zal, ↓Zam, ↓Zan, ↓Zao, ↓Zap, ↓Zaq, ↓Zar, ↓Zas, ↓Zat, ↓Zau, ↓Zav, ↓Zaw, ↓Zax, ↓Zay, ↓Zaz, ↓Zba, ↓Zbb, ↓Zbc, ↓Zbd, ↓Zbe, ↓Zbf, ↓Zbg, ↓Zbh, ↓Zbi, ↓Zbj, ↓Zbk, ↓Zbl, ↓Zbm, ↓Zbn, ↓Zbo, ↓Zbp, ↓Zbq, ↓Zbr, ↓Zbs, ↓Zbt, ↓Zbu, ↓Zbv, ↓Zbw, ↓Zbx, ↓Zby, ↓Zbz, ↓Zca, ↓Zcb, ↓Zcc, ↓Zcd, ↓Zce, ↓Zcf, ↓Zcg, ↓Zch, ↓Zci, ↓Zcj, ↓Zck, ↓Zcl, ↓Zcm, ↓Zcn, ↓Zco, ↓Zcp, ↓Zcq, ↓Zcr, ↓Zcs, ↓Zct, ↓Zcu, ↓Zcv, ↓Zcw, ↓Zcx, ↓Zcy, ↓Zcz, ↓Zda, ↓Zdb, ↓Zdc, ↓Zdd, ↓Zde, ↓Zdf, ↓Zdg, ↓Zdh, ↓Zdi, ↓Zdj, ↓Zdk, ↓Zdl, ↓Zdm, ↓Zdn, ↓Zdo, ↓Zdp, ↓Zdq, ↓Zdr, ↓Zds, ↓Zdt, ↓Zdu, ↓Zdv, ↓Zdw, ↓Zdx, ↓Zdy, ↓Zdz, ↓Zea, ↓Zeb, ↓Zec, ↓Zed, ↓Zee, ↓Zef, ↓Zeg, ↓Zeh, ↓Zei, ↓Zej, ↓Zek, ↓Zel, ↓Zem, ↓Zen, ↓Zeo, ↓Zep, ↓Zeq, ↓Zer, ↓Zes, ↓Zet, ↓Zeu, ↓Zev, ↓Zew, ↓Zex, ↓Zey, ↓Zez, ↓Zfa, ↓Zfb, ↓Zfc, ↓Zfd, ↓Zfe, ↓Zff, ↓Zfg, ↓Zfh, ↓Zfi, ↓Zfj, ↓Zfk, ↓Zfl, ↓Zfm, ↓Zfn, ↓Zfo, ↓Zfp, ↓Zfq, ↓Zfr, ↓Zfs, ↓Zft, ↓Zfu, ↓Zfv, ↓Zfw, ↓Zfx, ↓Zfy, ↓Zfz, ↓Zga, ↓Zgb, ↓Zgc, ↓Zgd, ↓Zge, ↓Zgf, ↓Zgg, ↓Zgh, ↓Zgi, ↓Zgj, ↓Zgk, ↓Zgl, ↓Zgm, ↓Zgn, ↓Zgo, ↓Zgp, ↓Zgq, ↓Zgr, ↓Zgs, ↓Zgt, ↓Zgu, ↓Zgv, ↓Zgw, ↓Zgx, ↓Zgy, ↓Zgz, ↓Zha, ↓Zhb, ↓Zhc, ↓Zhd, ↓Zhe, ↓Zhf, ↓Zhg, ↓Zhh, ↓Zhi, ↓Zhj, ↓Zhk, ↓Zhl, ↓Zhm, ↓Zhn, ↓Zho, ↓Zhp, ↓Zhq, ↓Zhr, ↓Zhs, ↓Zht, ↓Zhu, ↓Zhv, ↓Zhw, ↓Zhx, ↓Zhy, ↓Zhz, ↓Zia, ↓Zib, ↓Zic, ↓Zid, ↓Zie, ↓Zif, ↓Zig, ↓Zih, ↓Zii, ↓Zij, ↓Zik, ↓Zil, ↓Zim, ↓Zin, ↓Zio, ↓Ziq, ↓Zir, ↓Zis, ↓Zit, ↓Ziu, ↓Ziv, ↓Ziw, ↓Zix, ↓Ziy, ↓Ziz, ↓Zja, ↓Zjb, ↓Zjc, ↓Zjd, ↓Zje, ↓Zjf, ↓Zjg, ↓Zjh, ↓Zji, ↓Zjj, ↓Zjk, ↓Zjl, ↓Zjm, ↓Zjn, ↓Zjo, ↓Zjp, ↓Zjq, ↓Zjr, ↓Zjs, ↓Zjt, ↓Zju, ↓Zjv, ↓Zjw, ↓Zjx, ↓Zjy, ↓Zjz, ↓Zka, ↓Zkb, ↓Zkc, ↓Zkd, ↓Zke, ↓Zkf, ↓Zkg, ↓Zkh, ↓Zki, ↓Zkj, ↓Zkk, ↓Zkl, ↓Zkm, ↓Zkn, ↓Zko, ↓Zkp, ↓Zkq, ↓Zkr, ↓Zks, ↓Zkt, ↓Zku, ↓Zkv, ↓Zkw, ↓Zkx, ↓Zky, ↓Zkz, reduceIte, if_true, if_false, Bool.false_eq_true, Bool.and_true, Bool.true_and, Bool.and_false, Bool.false_and, Bool.or_true, Bool.true_or, Bool.or_false, Bool.false_or, Int.cast_ofNat_Int, Zla, Zlb, beq_self_eq_true, Int.reduceBEq, Int.reduceLT, Int.reduceLE, Int.reduceEq, Int.reduceNeg, Nat.reduceLT, Zlc, Zld, Zle, Zlf, Zlg, Zlh, Zli, Zlj, Zlk, Zll, Zlm, Zln, Zlo, Zlp, Zlq, Zlr, Zls, Zlt, Zlu, Zlv, Zlw, Zlx, Zly, Zlz, Zma, Zmb, Zmc, Zmd, Zme, Zmf, Zmg, Zmh, Zmi, Zmj, Zmk, Zml, Zmm, Zmn, Zmo, Zmp, Zmq, Zmr, Zms, Zmt, Zmu, Zmv, Zmw, Zmx, Zmy, Zmz, Zna, Znb, Znc, Znd, Zne, Znf, Zng, Znh, Zni, Znj, Znk, Znl, Znm, Znn, Zno, List.lookup_nil, Znp, Znq, Option.map_some, Option.map_none, Option.bind_some, Option.bind_none, List.map_nil, List.map_cons, List.nil_append, List.cons_append, List.append_nil, List.length_cons, List.length_nil, Nat.reduceAdd, Nat.reduceLeDiff, Nat.reduceEqDiff, Nat.reduceBEq, decide_true, decide_false, Bool.not_true, Bool.not_false, Znr, Zns, Znt, Znu, Znv, Znw, Znx, Zny, Znz, Zoa, Zob, Zoc, Zod, Zoe, List.getElem?_cons_zero, List.getElem?_cons_succ, Zof, Zog, Zoh, Zoi, Zoj, Zok, Zol, Zom, Zon, Zoo, Zop, Zoq, Zor, Zos, Zot, Zou, Zov, Zow, Zox, Zoy, setX, Zoz, Zpa, Zpb, Int.ofNat_lt, Int.ofNat_le, Zpc, Zpd, Zpe, Zpf, Zpg, Zph, e2]
      first | exact ⟨rfl, rfl, trivial⟩ | exact ⟨_, rfl, rfl, rfl, rfl⟩ | exact ⟨rfl, rfl, rfl⟩
    · have e2 : decide (Per w (i + 1)) = false := decide_eq_false h
      simp -implicitDefEqProofs -dsimp only [↓Zaa, ↓Zab, ↓Zac, ↓Zad, ↓Zae, ↓Zaf, ↓Zag, ↓Zah, ↓Zai, ↓Zaj, ↓Zak, ↓Zal, ↓Zam, ↓Zan, ↓Zao, ↓Zap, ↓Zaq, ↓Zar, ↓Zas, ↓Zat, ↓Zau, ↓Zav, ↓Zaw, ↓Zax, ↓Zay, ↓Zaz, ↓Zba, ↓Zbb, ↓Zbc, ↓Zbd, ↓Zbe, ↓Zbf, ↓Zbg, ↓Zbh, ↓Zbi, ↓Zbj, ↓Zbk, ↓Zbl, ↓Zbm, ↓Zbn, ↓Zbo, ↓Zbp, ↓Zbq, ↓Zbr, ↓Zbs, ↓Zbt, ↓Zbu, ↓Zbv, ↓Zbw, ↓Zbx, ↓Zby, ↓Zbz, ↓Zca, ↓Zcb, ↓Zcc, ↓Zcd, ↓Zce, ↓Zcf, ↓Zcg, ↓Zch, ↓Zci, ↓Zcj, ↓Zck, ↓Zcl, ↓Zcm, ↓Zcn, ↓Zco, ↓Zcp, ↓Zcq, ↓Zcr, ↓Zcs, ↓Zct, ↓Zcu, ↓Zcv, ↓Zcw, ↓Zcx, ↓Zcy, ↓Zcz, ↓Zda, ↓Zdb, ↓Zdc, ↓Zdd, ↓Zde, ↓Zdf, ↓Zdg, ↓Zdh, ↓Zdi, ↓Zdj, ↓Zdk, ↓Zdl, ↓Zdm, ↓Zdn, ↓Zdo, ↓Zdp, ↓Zdq, ↓Zdr, ↓Zds, ↓Zdt, ↓Zdu, ↓Zdv, ↓Zdw, ↓Zdx, ↓Zdy, ↓Zdz, ↓Zea, ↓Zeb, ↓Zec, ↓Zed, ↓Zee, ↓Zef, ↓Zeg, ↓Zeh, ↓Zei, ↓Zej, ↓Zek, ↓Zel, ↓Zem, ↓Zen, ↓Zeo, ↓Zep, ↓Zeq, ↓Zer, ↓Zes, ↓Zet, ↓Zeu, ↓Zev, ↓Zew, ↓Zex, ↓Zey, ↓Zez, ↓Zfa, ↓Zfb, ↓Zfc, ↓Zfd, ↓Zfe, ↓Zff, ↓Zfg, ↓Zfh, ↓Zfi, ↓Zfj, ↓Zfk, ↓Zfl, ↓Zfm, ↓Zfn, ↓Zfo, ↓Zfp, ↓Zfq, ↓Zfr, ↓Zfs, ↓Zft, ↓Zfu, ↓Zfv, ↓Zfw, ↓Zfx, ↓Zfy, ↓Zfz, ↓Zga, ↓Zgb, ↓Zgc, ↓Zgd, ↓Zge, ↓Zgf, ↓Zgg, ↓Zgh, ↓Zgi, ↓Zgj, ↓Zgk, ↓Zgl, ↓Zgm, ↓Zgn, ↓Zgo, ↓Zgp, ↓Zgq, ↓Zgr, ↓Zgs, ↓Zgt, ↓Zgu, ↓Zgv, ↓Zgw, ↓Zgx, ↓Zgy, ↓Zgz, ↓Zha, ↓Zhb, ↓Zhc, ↓Zhd, ↓Zhe, ↓Zhf, ↓Zhg, ↓Zhh, ↓Zhi, ↓Zhj, ↓Zhk, ↓Zhl, ↓Zhm, ↓Zhn, ↓Zho, ↓Zhp, ↓Zhq, ↓Zhr, ↓Zhs, ↓Zht, ↓Zhu, ↓Zhv, ↓Zhw, ↓Zhx, ↓Zhy, ↓Zhz, ↓Zia, ↓Zib, ↓Zic, ↓Zid, ↓Zie, ↓Zif, ↓Zig, ↓Zih, ↓Zii, ↓Zij, ↓Zik, ↓Zil, ↓Zim, ↓Zin, ↓Zio, ↓Ziq, ↓Zir, ↓Zis, ↓Zit, ↓Ziu, ↓Ziv, ↓Ziw, ↓Zix, ↓Ziy, ↓Ziz, ↓Zja, ↓Zjb, ↓Zjc, ↓Zjd, ↓Zje, ↓Zjf, ↓Zjg, ↓Zjh, ↓Zji, ↓Zjj, ↓Zjk, ↓Zjl, ↓Zjm, ↓Zjn, ↓Zjo, ↓Zjp, ↓Zjq, ↓Zjr, ↓Zjs, ↓Zjt, ↓Zju, ↓Zjv, ↓Zjw, ↓Zjx, ↓Zjy, ↓Zjz, ↓Zka, ↓Zkb, ↓Zkc, ↓Zkd, ↓Zke, ↓Zkf, ↓Zkg, ↓Zkh, ↓Zki, ↓Zkj, ↓Zkk, ↓Zkl, ↓Zkm, ↓Zkn, ↓Zko, ↓Zkp, ↓Zkq, ↓Zkr, ↓Zks, ↓Zkt, ↓Zku, ↓Zkv, ↓Zkw, ↓Zkx, ↓Zky, ↓Zkz, reduceIte, if_true, if_false, Bool.false_eq_true, Bool.and_true, Bool.true_and, Bool.and_false, Bool.false_and, Bool.or_true, Bool.true_or, Bool.or_false, Bool.false_or, Int.cast_ofNat_Int, Zla, Zlb, beq_self_eq_true, Int.reduceBEq, Int.reduceLT, Int.reduceLE, Int.reduceEq, Int.reduceNeg, Nat.reduceLT, Zlc, Zld, Zle, Zlf, Zlg, Zlh, Zli, Zlj, Zlk, Zll, Zlm, Zln, Zlo, Zlp, Zlq, Zlr, Zls, Zlt, Zlu, Zlv, Zlw, Zlx, Zly, Zlz, Zma, Zmb, Zmc, Zmd, Zme, Zmf, Zmg, Zmh, Zmi, Zmj, Zmk, Zml, Zmm, Zmn, Zmo, Zmp, Zmq, Zmr, Zms, Zmt, Zmu, Zmv, Zmw, Zmx, Zmy, Zmz, Zna, Znb, Znc, Znd, Zne, Znf, Zng, Znh, Zni, Znj, Znk, Znl, Znm, Znn, Zno, List.lookup_nil, Znp, Znq, Option.map_some, Option.map_none, Option.bind_some, Option.bind_none, List.map_nil, List.map_cons, List.nil_append, List.cons_append, List.append_nil, List.length_cons, List.length_nil, Nat.reduceAdd, Nat.reduceLeDiff, Nat.reduceEqDiff, Nat.reduceBEq, decide_true, decide_false, Bool.not_true, Bool.not_false, Znr, Zns, Znt, Znu, Znv, Znw, Znx, Zny, Znz, Zoa, Zob, Zoc, Zod, Zoe, List.getElem?_cons_zero, List.getElem?_cons_succ, Zof, Zog, Zoh, Zoi, Zoj, Zok, Zol, Zom, Zon, Zoo, Zop, Zoq, Zor, Zos, Zot, Zou, Zov, Zow, Zox, Zoy, setX, Zoz, Zpa, Zpb, Int.ofNat_lt, Int.ofNat_le, Zpc, Zpd, Zpe, Zpf, Zpg, Zph, e2]
      first | exact ⟨rfl, rfl, trivial⟩ | exact ⟨_, rfl, rfl, rfl, rfl⟩ | exact ⟨rfl, rfl, rfl⟩
  · simp -implicitDefEqProofs -dsimp only [↓Zaa, ↓Zab, ↓Zac, ↓Zad, ↓Zae, ↓Zaf, ↓Zag, ↓Zah, ↓Zai, ↓Zaj, ↓Zak, ↓Zal, ↓Zam, ↓Zan, ↓Zao, ↓Zap, ↓Zaq, ↓Zar, ↓Zas, ↓Zat, ↓Zau, ↓Zav, ↓Zaw, ↓Zax, ↓Zay, ↓Zaz, ↓Zba, ↓Zbb, ↓Zbc, ↓Zbd, ↓Zbe, ↓Zbf, ↓Zbg, ↓Zbh, ↓Zbi, ↓Zbj, ↓Zbk, ↓Zbl, ↓Zbm, ↓Zbn, ↓Zbo, ↓Zbp, ↓Zbq, ↓Zbr, ↓Zbs, ↓Zbt, ↓Zbu, ↓Zbv, ↓Zbw, ↓Zbx, ↓Zby, ↓Zbz, ↓Zca, ↓Zcb, ↓Zcc, ↓Zcd, ↓Zce, ↓Zcf, ↓Zcg, ↓Zch, ↓Zci, ↓Zcj, ↓Zck, ↓Zcl, ↓Zcm, ↓Zcn, ↓Zco, ↓Zcp, ↓Zcq, ↓Zcr, ↓Zcs, ↓Zct, ↓Zcu, ↓Zcv, ↓Zcw, ↓Zcx, ↓Zcy, ↓Zcz, ↓Zda, ↓Zdb, ↓Zdc, ↓Zdd, ↓Zde, ↓Zdf, ↓Zdg, ↓Zdh, ↓Zdi, ↓Zdj, ↓Zdk, ↓Zdl, ↓Zdm, ↓Zdn, ↓Zdo, ↓Zdp, ↓Zdq, ↓Zdr, ↓Zds, ↓Zdt, ↓Zdu, ↓Zdv, ↓Zdw, ↓Zdx, ↓Zdy, ↓Zdz, ↓Zea, ↓Zeb, ↓Zec, ↓Zed, ↓Zee, ↓Zef, ↓Zeg, ↓Zeh, ↓Zei, ↓Zej, ↓Zek, ↓Zel, ↓Zem, ↓Zen, ↓Zeo, ↓Zep, ↓Zeq, ↓Zer, ↓Zes, ↓Zet, ↓Zeu, ↓Zev, ↓Zew, ↓Zex, ↓Zey, ↓Zez, ↓Zfa, ↓Zfb, ↓Zfc, ↓Zfd, ↓Zfe, ↓Zff, ↓Zfg, ↓Zfh, ↓Zfi, ↓Zfj, ↓Zfk, ↓Zfl, ↓Zfm, ↓Zfn, ↓Zfo, ↓Zfp, ↓Zfq, ↓Zfr, ↓Zfs, ↓Zft, ↓Zfu, ↓Zfv, ↓Zfw, ↓Zfx, ↓Zfy, ↓Zfz, ↓Zga, ↓Zgb, ↓Zgc, ↓Zgd, ↓Zge, ↓Zgf, ↓Zgg, ↓Zgh, ↓Zgi, ↓Zgj, ↓Zgk, ↓Zgl, ↓Zgm, ↓Zgn, ↓Zgo, ↓Zgp, ↓Zgq, ↓Zgr, ↓Zgs, ↓Zgt, ↓Zgu, ↓Zgv, ↓Zgw, ↓Zgx, ↓Zgy, ↓Zgz, ↓Zha, ↓Zhb, ↓Zhc, ↓Zhd, ↓Zhe, ↓Zhf, ↓Zhg, ↓Zhh, ↓Zhi, ↓Zhj, ↓Zhk, ↓Zhl, ↓Zhm, ↓Zhn, ↓Zho, ↓Zhp, ↓Zhq, ↓Zhr, ↓Zhs, ↓Zht, ↓Zhu, ↓Zhv, ↓Zhw, ↓Zhx, ↓Zhy, ↓Zhz, ↓Zia, ↓Zib, ↓Zic, ↓Zid, ↓Zie, ↓Zif, ↓Zig, ↓Zih, ↓Zii, ↓Zij, ↓Zik, ↓Zil, ↓Zim, ↓Zin, ↓Zio, ↓Ziq, ↓Zir, ↓Zis, ↓Zit, ↓Ziu, ↓Ziv, ↓Ziw, ↓Zix, ↓Ziy, ↓Ziz, ↓Zja, ↓Zjb, ↓Zjc, ↓Zjd, ↓Zje, ↓Zjf, ↓Zjg, ↓Zjh, ↓Zji, ↓Zjj, ↓Zjk, ↓Zjl, ↓Zjm, ↓Zjn, ↓Zjo, ↓Zjp, ↓Zjq, ↓Zjr, ↓Zjs, ↓Zjt, ↓Zju, ↓Zjv, ↓Zjw, ↓Zjx, ↓Zjy, ↓Zjz, ↓Zka, ↓Zkb, ↓Zkc, ↓Zkd, ↓Zke, ↓Zkf, ↓Zkg, ↓Zkh, ↓Zki, ↓Zkj, ↓Zkk, ↓Zkl, ↓Zkm, ↓Zkn, ↓Zko, ↓Zkp, ↓Zkq, ↓Zkr, ↓Zks, ↓Zkt, ↓Zku, ↓Zkv, ↓Zkw, ↓Zkx, ↓Zky, ↓Zkz, reduceIte, if_true, if_false, Bool.false_eq_true, Bool.and_true, Bool.true_and, Bool.and_false, Bool.false_and, Bool.or_true, Bool.true_or, Bool.or_false, Bool.false_or, Int.cast_ofNat_Int, Zla, Zlb, beq_self_eq_true, Int.reduceBEq, Int.reduceLT, Int.reduceLE, Int.reduceEq, Int.reduceNeg, Nat.reduceLT, Zlc, Zld, Zle, Zlf, Zlg, Zlh, Zli, Zlj, Zlk, Zll, Zlm, Zln, Zlo, Zlp, Zlq, Zlr, Zls, Zlt, Zlu, Zlv, Zlw, Zlx, Zly, Zlz, Zma, Zmb, Zmc, Zmd, Zme, Zmf, Zmg, Zmh, Zmi, Zmj, Zmk, Zml, Zmm, Zmn, Zmo, Zmp, Zmq, Zmr, Zms, Zmt, Zmu, Zmv, Zmw, Zmx, Zmy, Zmz, Zna, Znb, Znc, Znd, Zne, Znf, Zng, Znh, Zni, Znj, Znk, Znl, Znm, Znn, Zno, List.lookup_nil, Znp, Znq, Option.map_some, Option.map_none, Option.bind_some, Option.bind_none, List.map_nil, List.map_cons, List.nil_append, List.cons_append, List.append_nil, List.length_cons, List.length_nil, Nat.reduceAdd, Nat.reduceLeDiff, Nat.reduceEqDiff, Nat.reduceBEq, decide_true, decide_false, Bool.not_true, Bool.not_false, Znr, Zns, Znt, Znu, Znv, Znw, Znx, Zny, Znz, Zoa, Zob, Zoc, Zod, Zoe, List.getElem?_cons_zero, List.getElem?_cons_succ, Zof, Zog, Zoh, Zoi, Zoj, Zok, Zol, Zom, Zon, Zoo, Zop, Zoq, Zor, Zos, Zot, Zou, Zov, Zow, Zox, Zoy, setX, Zoz, Zpa, Zpb, Int.ofNat_lt, Int.ofNat_le, Zpc, Zpd, Zpe, Zpf, Zpg, Zph]
theorem q_periods {w : List Nat} (hw : Wd w) : φ_periods [.val (.str w)] = .ok (.d (.tup (perD w))) [] := by
  apply run_periods
  unfold g_periods
  simp -implicitDefEqProofs -dsimp only [↓Zaa, ↓Zab, ↓Zac, ↓Zad, ↓Zae, ↓Zaf, ↓Zag, ↓Zah, ↓Zai, ↓Zaj, ↓Zak, ↓Zal, ↓Zam, ↓Zan, ↓Zao, ↓Zap, ↓Zaq, ↓Zar, ↓Zas, ↓Zat, ↓Zau, ↓Zav, ↓Zaw, ↓Zax, ↓Zay, ↓Zaz, ↓Zba, ↓Zbb, ↓Zbc, ↓Zbd, ↓Zbe, ↓Zbf, ↓Zbg, ↓Zbh, ↓Zbi, ↓Zbj, ↓Zbk, ↓Zbl, ↓Zbm, ↓Zbn, ↓Zbo, ↓Zbp, ↓Zbq, ↓Zbr, ↓Zbs, ↓Zbt, ↓Zbu, ↓Zbv, ↓Zbw, ↓Zbx, ↓Zby, ↓Zbz, ↓Zca, ↓Zcb, ↓Zcc, ↓Zcd, ↓Zce, ↓Zcf, ↓Zcg, ↓Zch, ↓Zci, ↓Zcj, ↓Zck, ↓Zcl, ↓Zcm, ↓Zcn, ↓Zco, ↓Zcp, ↓Zcq, ↓Zcr, ↓Zcs, ↓Zct, ↓Zcu, ↓Zcv, ↓Zcw, ↓Zcx, ↓Zcy, ↓Zcz, ↓Zda, ↓Zdb, ↓Zdc, ↓Zdd, ↓Zde, ↓Zdf, ↓Zdg, ↓Zdh, ↓Zdi, ↓Zdj, ↓Zdk, ↓Zdl, ↓Zdm, ↓Zdn, ↓Zdo, ↓Zdp, ↓Zdq, ↓Zdr, ↓Zds, ↓Zdt, ↓Zdu, ↓Zdv, ↓Zdw, ↓Zdx, ↓Zdy, ↓Zdz, ↓Zea, ↓Zeb, ↓Zec, ↓Zed, ↓Zee, ↓Zef, ↓Zeg, ↓Zeh, ↓Zei, ↓Zej, ↓Zek, ↓Zel, ↓Zem, ↓Zen, ↓Zeo, ↓Zep, ↓Zeq, ↓Zer, ↓Zes, ↓Zet, ↓Zeu, ↓Zev, ↓Zew, ↓Zex, ↓Zey, ↓Zez, ↓Zfa, ↓Zfb, ↓Zfc, ↓Zfd, ↓Zfe, ↓Zff, ↓Zfg, ↓Zfh, ↓Zfi, ↓Zfj, ↓Zfk, ↓Zfl, ↓Zfm, ↓Zfn, ↓Zfo, ↓Zfp, ↓Zfq, ↓Zfr, ↓Zfs, ↓Zft, ↓Zfu, ↓Zfv, ↓Zfw, ↓Zfx, ↓Zfy, ↓Zfz, ↓Zga, ↓Zgb, ↓Zgc, ↓Zgd, ↓Zge, ↓Zgf, ↓Zgg, ↓Zgh, ↓Zgi, ↓Zgj, ↓Zgk, ↓Zgl, ↓Zgm, ↓Zgn, ↓Zgo, ↓Zgp, ↓Zgq, ↓Zgr, ↓Zgs, ↓Zgt, ↓Zgu, ↓Zgv, ↓Zgw, ↓Zgx, ↓Zgy, ↓Zgz, ↓Zha, ↓Zhb, ↓Zhc, ↓Zhd, ↓Zhe, ↓Zhf, ↓Zhg, ↓Zhh, ↓Zhi, ↓Zhj, ↓Zhk, ↓Zhl, ↓Zhm, ↓Zhn, ↓Zho, ↓Zhp, ↓Zhq, ↓Zhr, ↓Zhs, ↓Zht, ↓Zhu, ↓Zhv, ↓Zhw, ↓Zhx, ↓Zhy, ↓Zhz, ↓Zia, ↓Zib, ↓Zic, ↓Zid, ↓Zie, ↓Zif, ↓Zig, ↓Zih, ↓Zii, ↓Zij, ↓Zik, ↓Zil, ↓Zim, ↓Zin, ↓Zio, ↓Ziq, ↓Zir, ↓Zis, ↓Zit, ↓Ziu, ↓Ziv, ↓Ziw, ↓Zix, ↓Ziy, ↓Ziz, ↓Zja, ↓Zjb, ↓Zjc, ↓Zjd, ↓Zje, ↓Zjf, ↓Zjg, ↓Zjh, ↓Zji, ↓Zjj, ↓Zjk, ↓Zjl, ↓Zjm, ↓Zjn, ↓Zjo, ↓Zjp, ↓Zjq, ↓Zjr, ↓Zjs, ↓Zjt, ↓Zju, ↓Zjv, ↓Zjw, ↓Zjx, ↓Zjy, ↓Zjz, ↓Zka, ↓Zkb, ↓Zkc, ↓Zkd, ↓Zke, ↓Zkf, ↓Zkg, ↓Zkh, ↓Zki, ↓Zkj, ↓Zkk, ↓Zkl, ↓Zkm, ↓Zkn, ↓Zko, ↓Zkp, ↓Zkq, ↓Zkr, ↓Zks, ↓Zkt, ↓Zku, ↓Zkv, ↓Zkw, ↓Zkx, ↓Zky, ↓Zkz, reduceIte, if_true, if_false, Bool.false_eq_true, Bool.and_true, Bool.true_and, Bool.and_false, Bool.false_and, Bool.or_true, Bool.true_or, Bool.or_false, Bool.false_or, Int.cast_ofNat_Int, Zla, Zlb, beq_self_eq_true, Int.reduceBEq, Int.reduceLT, Int.reduceLE, Int.reduceEq, Int.reduceNeg, Nat.reduceLT, Zlc, Zld, Zle, Zlf, Zlg, Zlh, Zli, Zlj, Zlk, Zll, Zlm, Zln, Zlo, Zlp, Zlq, Zlr, Zls, Zlt, Zlu, Zlv, Zlw, Zlx, Zly, Zlz, Zma, Zmb, Zmc, Zmd, Zme, Zmf, Zmg, Zmh, Zmi, Zmj, Zmk, Zml, Zmm, Zmn, Zmo, Zmp, Zmq, Zmr, Zms, Zmt, Zmu, Zmv, Zmw, Zmx, Zmy, Zmz, Zna, Znb, Znc, Znd, Zne, Znf, Zng, Znh, Zni, Znj, Znk, Znl, Znm, Znn, Zno, List.lookup_nil, Znp, Znq, Option.map_some, Option.map_none, Option.bind_some, Option.bind_none, List.map_nil, List.map_cons, List.nil_append, List.cons_append, List.append_nil, List.length_cons, List.length_nil, Nat.reduceAdd, Nat.reduceLeDiff, Nat.reduceEqDiff, Nat.reduceBEq, decide_true, decide_false, Bool.not_true, Bool.not_false, Znr, Zns, Znt, Znu, Znv, Znw, Znx, Zny, Znz, Zoa, Zob, Zoc, Zod, Zoe, List.getElem?_cons_zero, List.getElem?_cons_succ, Zof, Zog, Zoh, Zoi, Zoj, Zok, Zol, Zom, Zon, Zoo, Zop, Zoq, Zor, Zos, Zot, Zou, Zov, Zow, Zox, Zoy, setX, Zoz, Zpa, Zpb, Int.ofNat_lt, Int.ofNat_le, Zpc, Zpd, Zpe, Zpf, Zpg, Zph, q_check hw, q_pers hw]
theorem ch_eq {w : List Nat} {i j : Nat} (hi : i < w.length) (hj : j < w.length) : ([w[i]] == [w[j]]) = decide (w[i]? = w[j]?) := by
  rw [List.getElem?_eq_getElem hi, List.getElem?_eq_getElem hj, Bool.eq_iff_iff, beq_iff_eq, decide_eq_true_iff]
  simp
theorem q_lpers {w : List Nat} (hw : Wd w) : φ_law_periods [.val (.str w)] = .ok (.o (.l (perD w))) [] := by
  apply run_law_periods
  unfold g_law_periods
  have hl := hw.len
  have hl2 : w.length ≤ 16777216 := by omega
  have s1 : smI (1 : Int) = true := smI_ok (n := 1) (by decide)
  have s2 : smI ((w.length : Int) + 1) = true := by rw [show (w.length : Int) + 1 = ((w.length + 1 : Nat) : Int) by omega]; exact smI_ok (by omega)
  simp -implicitDefEqProofs -dsimp only [↓Zaa, ↓Zab, ↓Zac, ↓Zad, ↓Zae, ↓Zaf, ↓Zag, ↓Zah, ↓Zai, ↓Zaj, ↓Zak, ↓Zal, ↓Zam, ↓Zan, ↓Zao, ↓Zap, ↓Zaq, ↓Zar, ↓Zas, ↓Zat, ↓Zau, ↓Zav, ↓Zaw, ↓Zax, ↓Zay, ↓Zaz, ↓Zba, ↓Zbb, ↓Zbc, ↓Zbd, ↓Zbe, ↓Zbf, ↓Zbg, ↓Zbh, ↓Zbi, ↓Zbj, ↓Zbk, ↓Zbl, ↓Zbm, ↓Zbn, ↓Zbo, ↓Zbp, ↓Zbq, ↓Zbr, ↓Zbs, ↓Zbt, ↓Zbu, ↓Zbv, ↓Zbw, ↓Zbx, ↓Zby, ↓Zbz, ↓Zca, ↓Zcb, ↓Zcc, ↓Zcd, ↓Zce, ↓Zcf, ↓Zcg, ↓Zch, ↓Zci, ↓Zcj, ↓Zck, ↓Zcl, ↓Zcm, ↓Zcn, ↓Zco, ↓Zcp, ↓Zcq, ↓Zcr, ↓Zcs, ↓Zct, ↓Zcu, ↓Zcv, ↓Zcw, ↓Zcx, ↓Zcy, ↓Zcz, ↓Zda, ↓Zdb, ↓Zdc, ↓Zdd, ↓Zde, ↓Zdf, ↓Zdg, ↓Zdh, ↓Zdi, ↓Zdj, ↓Zdk, ↓Zdl, ↓Zdm, ↓Zdn, ↓Zdo, ↓Zdp, ↓Zdq, ↓Zdr, ↓Zds, ↓Zdt, ↓Zdu, ↓Zdv, ↓Zdw, ↓Zdx, ↓Zdy, ↓Zdz, ↓Zea, ↓Zeb, ↓Zec, ↓Zed, ↓Zee, ↓Zef, ↓Zeg, ↓Zeh, ↓Zei, ↓Zej, ↓Zek, ↓Zel, ↓Zem, ↓Zen, ↓Zeo, ↓Zep, ↓Zeq, ↓Zer, ↓Zes, ↓Zet, ↓Zeu, ↓Zev, ↓Zew, ↓Zex, ↓Zey, ↓Zez, ↓Zfa, ↓Zfb, ↓Zfc, ↓Zfd, ↓Zfe, ↓Zff, ↓Zfg, ↓Zfh, ↓Zfi, ↓Zfj, ↓Zfk, ↓Zfl, ↓Zfm, ↓Zfn, ↓Zfo, ↓Zfp, ↓Zfq, ↓Zfr, ↓Zfs, ↓Zft, ↓Zfu, ↓Zfv, ↓Zfw, ↓Zfx, ↓Zfy, ↓Zfz, ↓Zga, ↓Zgb, ↓Zgc, ↓Zgd, ↓Zge, ↓Zgf, ↓Zgg, ↓Zgh, ↓Zgi, ↓Zgj, ↓Zgk, ↓Zgl, ↓Zgm, ↓Zgn, ↓Zgo, ↓Zgp, ↓Zgq, ↓Zgr, ↓Zgs, ↓Zgt, ↓Zgu, ↓Zgv, ↓Zgw, ↓Zgx, ↓Zgy, ↓Zgz, ↓Zha, ↓Zhb, ↓Zhc, ↓Zhd, ↓Zhe, ↓Zhf, ↓Zhg, ↓Zhh, ↓Zhi, ↓Zhj, ↓Zhk, ↓Zhl, ↓Zhm, ↓Zhn, ↓Zho, ↓Zhp, ↓Zhq, ↓Zhr, ↓Zhs, ↓Zht, ↓Zhu, ↓Zhv, ↓Zhw, ↓Zhx, ↓Zhy, ↓Zhz, ↓Zia, ↓Zib, ↓Zic, ↓Zid, ↓Zie, ↓Zif, ↓Zig, ↓Zih, ↓Zii, ↓Zij, ↓Zik, ↓Zil, ↓Zim, ↓Zin, ↓Zio, ↓Ziq, ↓Zir, ↓Zis, ↓Zit, ↓Ziu, ↓Ziv, ↓Ziw, ↓Zix, ↓Ziy, ↓Ziz, ↓Zja, ↓Zjb, ↓Zjc, ↓Zjd, ↓Zje, ↓Zjf, ↓Zjg, ↓Zjh, ↓Zji, ↓Zjj, ↓Zjk, ↓Zjl, ↓Zjm, ↓Zjn, ↓Zjo, ↓Zjp, ↓Zjq, ↓Zjr, ↓Zjs, ↓Zjt, ↓Zju, ↓Zjv, ↓Zjw, ↓Zjx, ↓Zjy, ↓Zjz, ↓Zka, ↓Zkb, ↓Zkc, ↓Zkd, ↓Zke, ↓Zkf, ↓Zkg, ↓Zkh, ↓Zki, ↓Zkj, ↓Zkk, ↓Zkl, ↓Zkm, ↓Zkn, ↓Zko, ↓Zkp, ↓Zkq, ↓Zkr, ↓Zks, ↓Zkt, ↓Zku, ↓Zkv, ↓Zkw, ↓Zkx, ↓Zky, ↓Zkz, reduceIte, if_true, if_false, Bool.false_eq_true, Bool.and_true, Bool.true_and, Bool.and_false, Bool.false_and, Bool.or_true, Bool.true_or, Bool.or_false, Bool.false_or, Int.cast_ofNat_Int, Zla, Zlb, beq_self_eq_true, Int.reduceBEq, Int.reduceLT, Int.reduceLE, Int.reduceEq, Int.reduceNeg, Nat.reduceLT, Zlc, Zld, Zle, Zlf, Zlg, Zlh, Zli, Zlj, Zlk, Zll, Zlm, Zln, Zlo, Zlp, Zlq, Zlr, Zls, Zlt, Zlu, Zlv, Zlw, Zlx, Zly, Zlz, Zma, Zmb, Zmc, Zmd, Zme, Zmf, Zmg, Zmh, Zmi, Zmj, Zmk, Zml, Zmm, Zmn, Zmo, Zmp, Zmq, Zmr, Zms, Zmt, Zmu, Zmv, Zmw, Zmx, Zmy, Zmz, Zna, Znb, Znc, Znd, Zne, Znf, Zng, Znh, Zni, Znj, Znk, Znl, Znm, Znn, Zno, List.lookup_nil, Znp, Znq, Option.map_some, Option.map_none, Option.bind_some, Option.bind_none, List.map_nil, List.map_cons, List.nil_append, List.cons_append, List.append_nil, List.length_cons, List.length_nil, Nat.reduceAdd, Nat.reduceLeDiff, Nat.reduceEqDiff, Nat.reduceBEq, decide_true, decide_false, Bool.not_true, Bool.not_false, Znr, Zns, Znt, Znu, Znv, Znw, Znx, Zny, Znz, Zoa, Zob, Zoc, Zod, Zoe, List.getElem?_cons_zero, List.getElem?_cons_succ, Zof, Zog, Zoh, Zoi, Zoj, Zok, Zol, Zom, Zon, Zoo, Zop, Zoq, Zor, Zos, Zot, Zou, Zov, Zow, Zox, Zoy, setX, Zoz, Zpa, Zpb, Int.ofNat_lt, Int.ofNat_le, Zpc, Zpd, Zpe, Zpf, Zpg, Zph, bLen_s hl2, s1, s2]
  rw [rngG (lo := 1) (a := 1) (k := w.length) rfl (by omega)]
  refine lc_filter (l := List.range w.length) (g := fun i => .int ((1 + i : Nat) : Int)) (fun i => decide (Per w (i + 1))) (fun i => .int ((1 + i : Nat) : Int)) rfl (by simp; omega) (fun i hi => ?_) ?_
  · have hi := List.mem_range.mp hi
    simp only [wipeE, List.set_cons_zero, List.set_cons_succ]
    have ed : (w.length : Int) - ((1 + i : Nat) : Int) = ((w.length - (1 + i) : Nat) : Int) := by omega
    have s3 : smI ((w.length : Int) - ((1 + i : Nat) : Int)) = true := by rw [ed]; exact smI_ok (by omega)
    simp -implicitDefEqProofs -dsimp only [↓Zaa, ↓Zab, ↓Zac, ↓Zad, ↓Zae, ↓Zaf, ↓Zag, ↓Zah, ↓Zai, ↓Zaj, ↓Zak, ↓Zal, ↓Zam, ↓Zan, ↓Zao, ↓Zap, ↓Zaq, ↓Zar, ↓Zas, ↓Zat, ↓Zau, ↓Zav, ↓Zaw, ↓Zax, ↓Zay, ↓Zaz, ↓Zba, ↓Zbb, ↓Zbc, ↓Zbd, ↓Zbe, ↓Zbf, ↓Zbg, ↓Zbh, ↓Zbi, ↓Zbj, ↓Zbk, ↓Zbl, ↓Zbm, ↓Zbn, ↓Zbo, ↓Zbp, ↓Zbq, ↓Zbr, ↓Zbs, ↓Zbt, ↓Zbu, ↓Zbv, ↓Zbw, ↓Zbx, ↓Zby, ↓Zbz, ↓Zca, ↓Zcb, ↓Zcc, ↓Zcd, ↓Zce, ↓Zcf, ↓Zcg, ↓Zch, ↓Zci, ↓Zcj, ↓Zck, ↓Zcl, ↓Zcm, ↓Zcn, ↓Zco, ↓Zcp, ↓Zcq, ↓Zcr, ↓Zcs, ↓Zct, ↓Zcu, ↓Zcv, ↓Zcw, ↓Zcx, ↓Zcy, ↓Zcz, ↓Zda, ↓Zdb, ↓Zdc, ↓Zdd, ↓Zde, ↓Zdf, ↓Zdg, ↓Zdh, ↓Zdi, ↓Zdj, ↓Zdk, ↓Zdl, ↓Zdm, ↓Zdn, ↓Zdo, ↓Zdp, ↓Zdq, ↓Zdr, ↓Zds, ↓Zdt, ↓Zdu, ↓Zdv, ↓Zdw, ↓Zdx, ↓Zdy, ↓Zdz, ↓Zea, ↓Zeb, ↓Zec, ↓Zed, ↓Zee, ↓Zef, ↓Zeg, ↓Zeh, ↓Zei, ↓Zej, ↓Zek, ↓Zel, ↓Zem, ↓Zen, ↓Zeo, ↓Zep, ↓Zeq, ↓Zer, ↓Zes, ↓Zet, ↓Zeu, ↓Zev, ↓Zew, ↓Zex, ↓Zey, ↓Zez, ↓Zfa, ↓Zfb, ↓Zfc, ↓Zfd, ↓Zfe, ↓Zff, ↓Zfg, ↓Zfh, ↓Zfi, ↓Zfj, ↓Zfk, ↓Zfl, ↓Zfm, ↓Zfn, ↓Zfo, ↓Zfp, ↓Zfq, ↓Zfr, ↓Zfs, ↓Zft, ↓Zfu, ↓Zfv, ↓Zfw, ↓Zfx, ↓Zfy, ↓Zfz, ↓Zga, ↓Zgb, ↓Zgc, ↓Zgd, ↓Zge, ↓Zgf, ↓Zgg, ↓Zgh, ↓Zgi, ↓Zgj, ↓Zgk, ↓Zgl, ↓Zgm, ↓Zgn, ↓Zgo, ↓Zgp, ↓Zgq, ↓Zgr, ↓Zgs, ↓Zgt, ↓Zgu, ↓Zgv, ↓Zgw, ↓Zgx, ↓Zgy, ↓Zgz, ↓Zha, ↓Zhb, ↓Zhc, ↓Zhd, ↓Zhe, ↓Zhf, ↓Zhg, ↓Zhh, ↓Zhi, ↓Zhj, ↓Zhk, ↓Zhl, ↓Zhm, ↓Zhn, ↓Zho, ↓Zhp, ↓Zhq, ↓Zhr, ↓Zhs, ↓Zht, ↓Zhu, ↓Zhv, ↓Zhw, ↓Zhx, ↓Zhy, ↓Zhz, ↓Zia, ↓Zib, ↓Zic, ↓Zid, ↓Zie, ↓Zif, ↓Zig, ↓Zih, ↓Zii, ↓Zij, ↓Zik, ↓Zil, ↓Zim, ↓Zin, ↓Zio, ↓Ziq, ↓Zir, ↓Zis, ↓Zit, ↓Ziu, ↓Ziv, ↓Ziw, ↓Zix, ↓Ziy, ↓Ziz, ↓Zja, ↓Zjb, ↓Zjc, ↓Zjd, ↓Zje, ↓Zjf, ↓Zjg, ↓Zjh, ↓Zji, ↓Zjj, ↓Zjk, ↓Zjl, ↓Zjm, ↓Zjn, ↓Zjo, ↓Zjp, ↓Zjq, ↓Zjr, ↓Zjs, ↓Zjt, ↓Zju, ↓Zjv, ↓Zjw, ↓Zjx, ↓Zjy, ↓Zjz, ↓Zka, ↓Zkb, ↓Zkc, ↓Zkd, ↓Zke, ↓Zkf, ↓Zkg, ↓Zkh, ↓Zki, ↓Zkj, ↓Zkk, ↓Zkl, ↓Zkm, ↓Zkn, ↓Zko, ↓Zkp, ↓Zkq, ↓Zkr, ↓Zks, ↓Zkt, ↓Zku, ↓Zkv, ↓Zkw, ↓Zkx, ↓Zky, ↓Zkz, reduceIte, if_true, if_false, Bool.false_eq_true, Bool.and_true, Bool.true_and, Bool.and_false, Bool.false_and, Bool.or_true, Bool.true_or, Bool.or_false, Bool.false_or, Int.cast_ofNat_Int, Zla, Zlb, beq_self_eq_true, Int.reduceBEq, Int.reduceLT, Int.reduceLE, Int.reduceEq, Int.reduceNeg, Nat.reduceLT, Zlc, Zld, Zle, Zlf, Zlg, Zlh, Zli, Zlj, Zlk, Zll, Zlm, Zln, Zlo, Zlp, Zlq, Zlr, Zls, Zlt, Zlu, Zlv, Zlw, Zlx, Zly, Zlz, Zma, Zmb, Zmc, Zmd, Zme, Zmf, Zmg, Zmh, Zmi, Zmj, Zmk, Zml, Zmm, Zmn, Zmo, Zmp, Zmq, Zmr, Zms, Zmt, Zmu, Zmv, Zmw, Zmx, Zmy, Zmz, Zna, Znb, Znc, Znd, Zne, Znf, Zng, Znh, Zni, Znj, Znk, Znl, Znm, Znn, Zno, List.lookup_nil, Znp, Znq, Option.map_some, Option.map_none, Option.bind_some, Option.bind_none, List.map_nil, List.map_cons, List.nil_append, List.cons_append, List.append_nil, List.length_cons, List.length_nil, Nat.reduceAdd, Nat.reduceLeDiff, Nat.reduceEqDiff, Nat.reduceBEq, decide_true, decide_false, Bool.not_true, Bool.not_false, Znr, Zns, Znt, Znu, Znv, Znw, Znx, Zny, Znz, Zoa, Zob, Zoc, Zod, Zoe, List.getElem?_cons_zero, List.getElem?_cons_succ, Zof, Zog, Zoh, Zoi, Zoj, Zok, Zol, Zom, Zon, Zoo, Zop, Zoq, Zor, Zos, Zot, Zou, Zov, Zow, Zox, Zoy, setX, Zoz, Zpa, Zpb, Int.ofNat_lt, Int.ofNat_le, Zpc, Zpd, Zpe, Zpf, Zpg, Zph, bLen_s hl2, s3]
    rw [rngG (lo := 0) (a := 0) (k := w.length - (1 + i)) rfl (by omega)]
    refine lc_map (l := List.range (w.length - (1 + i))) (g := fun j => .int ((0 + j : Nat) : Int)) (fun j => .bl (decide (w[j]? = w[j + (1 + i)]?))) rfl (by simp; omega) (fun j hj => ?_) ?_
    · have hj := List.mem_range.mp hj
      have h1 : 0 + j < w.length := by omega
      have h2 : j + (1 + i) < w.length := by omega
      have ea : ((0 + j : Nat) : Int) + ((1 + i : Nat) : Int) = ((j + (1 + i) : Nat) : Int) := by omega
      have e : ([w[0 + j]] == [w[j + (1 + i)]]) = decide (w[j]? = w[j + (1 + i)]?) := by rw [ch_eq h1 h2, Nat.zero_add]
      simp only [wipeE, List.set_cons_zero, List.set_cons_succ]
      simp -implicitDefEqProofs -dsimp only [↓Zaa, ↓Zab, ↓Zac, ↓Zad, ↓Zae, ↓Zaf, ↓Zag, ↓Zah, ↓Zai, ↓Zaj, ↓Zak, ↓Zal, ↓Zam, ↓Zan, ↓Zao, ↓Zap, ↓Zaq, ↓Zar, ↓Zas, ↓Zat, ↓Zau, ↓Zav, ↓Zaw, ↓Zax, ↓Zay, ↓Zaz, ↓Zba, ↓Zbb, ↓Zbc, ↓Zbd, ↓Zbe, ↓Zbf, ↓Zbg, ↓Zbh, ↓Zbi, ↓Zbj, ↓Zbk, ↓Zbl, ↓Zbm, ↓Zbn, ↓Zbo, ↓Zbp, ↓Zbq, ↓Zbr, ↓Zbs, ↓Zbt, ↓Zbu, ↓Zbv, ↓Zbw, ↓Zbx, ↓Zby, ↓Zbz, ↓Zca, ↓Zcb, ↓Zcc, ↓Zcd, ↓Zce, ↓Zcf, ↓Zcg, ↓Zch, ↓Zci, ↓Zcj, ↓Zck, ↓Zcl, ↓Zcm, ↓Zcn, ↓Zco, ↓Zcp, ↓Zcq, ↓Zcr, ↓Zcs, ↓Zct, ↓Zcu, ↓Zcv, ↓Zcw, ↓Zcx, ↓Zcy, ↓Zcz, ↓Zda, ↓Zdb, ↓Zdc, ↓Zdd, ↓Zde, ↓Zdf, ↓Zdg, ↓Zdh, ↓Zdi, ↓Zdj, ↓Zdk, ↓Zdl, ↓Zdm, ↓Zdn, ↓Zdo, ↓Zdp, ↓Zdq, ↓Zdr, ↓Zds, ↓Zdt, ↓Zdu, ↓Zdv, ↓Zdw, ↓Zdx, ↓Zdy, ↓Zdz, ↓Zea, ↓Zeb, ↓Zec, ↓Zed, ↓Zee, ↓Zef, ↓Zeg, ↓Zeh, ↓Zei, ↓Zej, ↓Zek, ↓Zel, ↓Zem, ↓Zen, ↓Zeo, ↓Zep, ↓Zeq, ↓Zer, ↓Zes, ↓Zet, ↓Zeu, ↓Zev, ↓Zew, ↓Zex, ↓Zey, ↓Zez, ↓Zfa, ↓Zfb, ↓Zfc, ↓Zfd, ↓Zfe, ↓Zff, ↓Zfg, ↓Zfh, ↓Zfi, ↓Zfj, ↓Zfk, ↓Zfl, ↓Zfm, ↓Zfn, ↓Zfo, ↓Zfp, ↓Zfq, ↓Zfr, ↓Zfs, ↓Zft, ↓Zfu, ↓Zfv, ↓Zfw, ↓Zfx, ↓Zfy, ↓Zfz, ↓Zga, ↓Zgb, ↓Zgc, ↓Zgd, ↓Zge, ↓Zgf, ↓Zgg, ↓Zgh, ↓Zgi, ↓Zgj, ↓Zgk, ↓Zgl, ↓Zgm, ↓Zgn, ↓Zgo, ↓Zgp, ↓Zgq, ↓Zgr, ↓Zgs, ↓Zgt, ↓Zgu, ↓Zgv, ↓Zgw, ↓Zgx, ↓Zgy, ↓Zgz, ↓Zha, ↓Zhb, ↓Zhc, ↓Zhd, ↓Zhe, ↓Zhf, ↓Zhg, ↓Zhh, ↓Zhi, ↓Zhj, ↓Zhk, ↓Zhl, ↓Zhm, ↓Zhn, ↓Zho, ↓Zhp, ↓Zhq, ↓Zhr, ↓Zhs, ↓Zht, ↓Zhu, ↓Zhv, ↓Zhw, ↓Zhx, ↓Zhy, ↓Zhz, ↓Zia, ↓Zib, ↓Zic, ↓Zid, ↓Zie, ↓Zif, ↓Zig, ↓Zih, ↓Zii, ↓Zij, ↓Zik, ↓Zil, ↓Zim, ↓Zin, ↓Zio, ↓Ziq, ↓Zir, ↓Zis, ↓Zit, ↓Ziu, ↓Ziv, ↓Ziw, ↓Zix, ↓Ziy, ↓Ziz, ↓Zja, ↓Zjb, ↓Zjc, ↓Zjd, ↓Zje, ↓Zjf, ↓Zjg, ↓Zjh, ↓Zji, ↓Zjj, ↓Zjk, ↓Zjl, ↓Zjm, ↓Zjn, ↓Zjo, ↓Zjp, ↓Zjq, ↓Zjr, ↓Zjs, ↓Zjt, ↓Zju, ↓Zjv, ↓Zjw, ↓Zjx, ↓Zjy, ↓Zjz, ↓Zka, ↓Zkb, ↓Zkc, ↓Zkd, ↓Zke, ↓Zkf, ↓Zkg, ↓Zkh, ↓Zki, ↓Zkj, ↓Zkk, ↓Zkl, ↓Zkm, ↓Zkn, ↓Zko, ↓Zkp, ↓Zkq, ↓Zkr, ↓Zks, ↓Zkt, ↓Zku, ↓Zkv, ↓Zkw, ↓Zkx, ↓Zky, ↓Zkz, reduceIte, if_true, if_false, Bool.false_eq_true, Bool.and_true, Bool.true_and, Bool.and_false, Bool.false_and, Bool.or_true, Bool.true_or, Bool.or_false, Bool.false_or, Int.cast_ofNat_Int, Zla, Zlb, beq_self_eq_true, Int.reduceBEq, Int.reduceLT, Int.reduceLE, Int.reduceEq, Int.reduceNeg, Nat.reduceLT, Zlc, Zld, Zle, Zlf, Zlg, Zlh, Zli, Zlj, Zlk, Zll, Zlm, Zln, Zlo, Zlp, Zlq, Zlr, Zls, Zlt, Zlu, Zlv, Zlw, Zlx, Zly, Zlz, Zma, Zmb, Zmc, Zmd, Zme, Zmf, Zmg, Zmh, Zmi, Zmj, Zmk, Zml, Zmm, Zmn, Zmo, Zmp, Zmq, Zmr, Zms, Zmt, Zmu, Zmv, Zmw, Zmx, Zmy, Zmz, Zna, Znb, Znc, Znd, Zne, Znf, Zng, Znh, Zni, Znj, Znk, Znl, Znm, Znn, Zno, List.lookup_nil, Znp, Znq, Option.map_some, Option.map_none, Option.bind_some, Option.bind_none, List.map_nil, List.map_cons, List.nil_append, List.cons_append, List.append_nil, List.length_cons, List.length_nil, Nat.reduceAdd, Nat.reduceLeDiff, Nat.reduceEqDiff, Nat.reduceBEq, decide_true, decide_false, Bool.not_true, Bool.not_false, Znr, Zns, Znt, Znu, Znv, Znw, Znx, Zny, Znz, Zoa, Zob, Zoc, Zod, Zoe, List.getElem?_cons_zero, List.getElem?_cons_succ, Zof, Zog, Zoh, Zoi, Zoj, Zok, Zol, Zom, Zon, Zoo, Zop, Zoq, Zor, Zos, Zot, Zou, Zov, Zow, Zox, Zoy, setX, Zoz, Zpa, Zpb, Int.ofNat_lt, Int.ofNat_le, Zpc, Zpd, Zpe, Zpf, Zpg, Zph, ixD_s hl2, ea, List.getElem?_eq_getElem h1, List.getElem?_eq_getElem h2, e]
      refine ⟨rfl, rfl, ?_⟩
      simp only [List.getElem?_eq_getElem h2]
    · have e : (List.range (w.length - (1 + i))).all (fun j => decide (w[j]? = w[j + (1 + i)]?)) = decide (Per w (i + 1)) := by
        rw [Bool.eq_iff_iff, List.all_eq_true, decide_eq_true_iff]
        constructor
        · intro h j hj
          have := h j (List.mem_range.mpr (by omega))
          rw [decide_eq_true_iff] at this
          rw [this]
          congr 1
          omega
        · intro h j hj
          have hj := List.mem_range.mp hj
          rw [decide_eq_true_iff, h j (by omega)]
          congr 1
          omega
      by_cases h : Per w (i + 1)
      · rw [decide_eq_true h] at e
        simp -implicitDefEqProofs -dsimp only [↓Zaa, ↓Zab, ↓Zac, ↓Zad, ↓Zae, ↓Zaf, ↓Zag, ↓Zah, ↓Zai, ↓Zaj, ↓Zak, ↓Zal, ↓Zam, ↓Zan, ↓Zao, ↓Zap, ↓Zaq, ↓Zar, ↓Zas, ↓Zat, ↓Zau, ↓Zav, ↓Zaw, ↓Zax, ↓Zay, ↓Zaz, ↓Zba, ↓Zbb, ↓Zbc, ↓Zbd, ↓Zbe, ↓Zbf, ↓Zbg, ↓Zbh, ↓Zbi, ↓Zbj, ↓Zbk, ↓Zbl, ↓Zbm, ↓Zbn, ↓Zbo, ↓Zbp, ↓Zbq, ↓Zbr, ↓Zbs, ↓Zbt, ↓Zbu, ↓Zbv, ↓Zbw, ↓Zbx, ↓Zby, ↓Zbz, ↓Zca, ↓Zcb, ↓Zcc, ↓Zcd, ↓Zce, ↓Zcf, ↓Zcg, ↓Zch, ↓Zci, ↓Zcj, ↓Zck, ↓Zcl, ↓Zcm, ↓Zcn, ↓Zco, ↓Zcp, ↓Zcq, ↓Zcr, ↓Zcs, ↓Zct, ↓Zcu, ↓Zcv, ↓Zcw, ↓Zcx, ↓Zcy, ↓Zcz, ↓Zda, ↓Zdb, ↓Zdc, ↓Zdd, ↓Zde, ↓Zdf, ↓Zdg, ↓Zdh, ↓Zdi, ↓Zdj, ↓Zdk, ↓Zdl, ↓Zdm, ↓Zdn, ↓Zdo, ↓Zdp, ↓Zdq, ↓Zdr, ↓Zds, ↓Zdt, ↓Zdu, ↓Zdv, ↓Zdw, ↓Zdx, ↓Zdy, ↓Zdz, ↓Zea, ↓Zeb, ↓Zec, ↓Zed, ↓Zee, ↓Zef, ↓Zeg, ↓Zeh, ↓Zei, ↓Zej, ↓Zek, ↓Zel, ↓Zem, ↓Zen, ↓Zeo, ↓Zep, ↓Zeq, ↓Zer, ↓Zes, ↓Zet, ↓Zeu, ↓Zev, ↓Zew, ↓Zex, ↓Zey, ↓Zez, ↓Zfa, ↓Zfb, ↓Zfc, ↓Zfd, ↓Zfe, ↓Zff, ↓Zfg, ↓Zfh, ↓Zfi, ↓Zfj, ↓Zfk, ↓Zfl, ↓Zfm, ↓Zfn, ↓Zfo, ↓Zfp, ↓Zfq, ↓Zfr, ↓Zfs, ↓Zft, ↓Zfu, ↓Zfv, ↓Zfw, ↓Zfx, ↓Zfy, ↓Zfz, ↓Zga, ↓Zgb, ↓Zgc, ↓Zgd, ↓Zge, ↓Zgf, ↓Zgg, ↓Zgh, ↓Zgi, ↓Zgj, ↓Zgk, ↓Zgl, ↓Zgm, ↓Zgn, ↓Zgo, ↓Zgp, ↓Zgq, ↓Zgr, ↓Zgs, ↓Zgt, ↓Zgu, ↓Zgv, ↓Zgw, ↓Zgx, ↓Zgy, ↓Zgz, ↓Zha, ↓Zhb, ↓Zhc, ↓Zhd, ↓Zhe, ↓Zhf, ↓Zhg, ↓Zhh, ↓Zhi, ↓Zhj, ↓Zhk, ↓Zhl, ↓Zhm, ↓Zhn, ↓Zho, ↓Zhp, ↓Zhq, ↓Zhr, ↓Zhs, ↓Zht, ↓Zhu, ↓Zhv, ↓Zhw, ↓Zhx, ↓Zhy, ↓Zhz, ↓Zia, ↓Zib, ↓Zic, ↓Zid, ↓Zie, ↓Zif, ↓Zig, ↓Zih, ↓Zii, ↓Zij, ↓Zik, ↓Zil, ↓Zim, ↓Zin, ↓Zio, ↓Ziq, ↓Zir, ↓Zis, ↓Zit, ↓Ziu, ↓Ziv, ↓Ziw, ↓Zix, ↓Ziy, ↓Ziz, ↓Zja, ↓Zjb, ↓Zjc, ↓Zjd, ↓Zje, ↓Zjf, ↓Zjg, ↓Zjh, ↓Zji, ↓Zjj, ↓Zjk, ↓Zjl, ↓Zjm, ↓Zjn, ↓Zjo, ↓Zjp, ↓Zjq, ↓Zjr, ↓Zjs, ↓Zjt, ↓Zju, ↓Zjv, ↓Zjw, ↓Zjx, ↓Zjy, ↓Zjz, ↓Zka, ↓Zkb, ↓Zkc, ↓Zkd, ↓Zke, ↓Zkf, ↓Zkg, ↓Zkh, ↓Zki, ↓Zkj, ↓Zkk, ↓Zkl, ↓Zkm, ↓Zkn, ↓Zko, ↓Zkp, ↓Zkq, ↓Zkr, ↓Zks, ↓Zkt, ↓Zku, ↓Zkv, ↓Zkw, ↓Zkx, ↓Zky, ↓Zkz, reduceIte, if_true, if_false, Bool.false_eq_true, Bool.and_true, Bool.true_and, Bool.and_false, Bool.false_and, Bool.or_true, Bool.true_or, Bool.or_false, Bool.false_or, Int.cast_ofNat_Int, Zla, Zlb, beq_self_eq_true, Int.reduceBEq, Int.reduceLT, Int.reduceLE, Int.reduceEq, Int.reduceNeg, Nat.reduceLT, Zlc, Zld, Zle, Zlf, Zlg, Zlh, Zli, Zlj, Zlk, Zll, Zlm, Zln, Zlo, Zlp, Zlq, Zlr, Zls, Zlt, Zlu, Zlv, Zlw, Zlx, Zly, Zlz, Zma, Zmb, Zmc, Zmd, Zme, Zmf, Zmg, Zmh, Zmi, Zmj, Zmk, Zml, Zmm, Zmn, Zmo, Zmp, Zmq, Zmr, Zms, Zmt, Zmu, Zmv, Zmw, Zmx, Zmy, Zmz, Zna, Znb, Znc, Znd, Zne, Znf, Zng, Znh, Zni, Znj, Znk, Znl, Znm, Znn, Zno, List.lookup_nil, Znp, Znq, Option.map_some, Option.map_none, Option.bind_some, Option.bind_none, List.map_nil, List.map_cons, List.nil_append, List.cons_append, List.append_nil, List.length_cons, List.length_nil, Nat.reduceAdd, Nat.reduceLeDiff, Nat.reduceEqDiff, Nat.reduceBEq, decide_true, decide_false, Bool.not_true, Bool.not_false, Znr, Zns, Znt, Znu, Znv, Znw, Znx, Zny, Znz, Zoa, Zob, Zoc, Zod, Zoe, List.getElem?_cons_zero, List.getElem?_cons_succ, Zof, Zog, Zoh, Zoi, Zoj, Zok, Zol, Zom, Zon, Zoo, Zop, Zoq, Zor, Zos, Zot, Zou, Zov, Zow, Zox, Zoy, setX, Zoz, Zpa, Zpb, Int.ofNat_lt, Int.ofNat_le, Zpc, Zpd, Zpe, Zpf, Zpg, Zph, Zop, e, decide_eq_true h]
        first | exact ⟨rfl, rfl, trivial⟩ | exact ⟨_, rfl, rfl, rfl, rfl⟩ | exact ⟨rfl, rfl, rfl⟩
      · rw [decide_eq_false h] at e
        simp -implicitDefEqProofs -dsimp only [↓Zaa, ↓Zab, ↓Zac, ↓Zad, ↓Zae, ↓Zaf, ↓Zag, ↓Zah, ↓Zai, ↓Zaj, ↓Zak, ↓Zal, ↓Zam, ↓Zan, ↓Zao, ↓Zap, ↓Zaq, ↓Zar, ↓Zas, ↓Zat, ↓Zau, ↓Zav, ↓Zaw, ↓Zax, ↓Zay, ↓Zaz, ↓Zba, ↓Zbb, ↓Zbc, ↓Zbd, ↓Zbe, ↓Zbf, ↓Zbg, ↓Zbh, ↓Zbi, ↓Zbj, ↓Zbk, ↓Zbl, ↓Zbm, ↓Zbn, ↓Zbo, ↓Zbp, ↓Zbq, ↓Zbr, ↓Zbs, ↓Zbt, ↓Zbu, ↓Zbv, ↓Zbw, ↓Zbx, ↓Zby, ↓Zbz, ↓Zca, ↓Zcb, ↓Zcc, ↓Zcd, ↓Zce, ↓Zcf, ↓Zcg, ↓Zch, ↓Zci, ↓Zcj, ↓Zck, ↓Zcl, ↓Zcm, ↓Zcn, ↓Zco, ↓Zcp, ↓Zcq, ↓Zcr, ↓Zcs, ↓Zct, ↓Zcu, ↓Zcv, ↓Zcw, ↓Zcx, ↓Zcy, ↓Zcz, ↓Zda, ↓Zdb, ↓Zdc, ↓Zdd, ↓Zde, ↓Zdf, ↓Zdg, ↓Zdh, ↓Zdi, ↓Zdj, ↓Zdk, ↓Zdl, ↓Zdm, ↓Zdn, ↓Zdo, ↓Zdp, ↓Zdq, ↓Zdr, ↓Zds, ↓Zdt, ↓Zdu, ↓Zdv, ↓Zdw, ↓Zdx, ↓Zdy, ↓Zdz, ↓Zea, ↓Zeb, ↓Zec, ↓Zed, ↓Zee, ↓Zef, ↓Zeg, ↓Zeh, ↓Zei, ↓Zej, ↓Zek, ↓Zel, ↓Zem, ↓Zen, ↓Zeo, ↓Zep, ↓Zeq, ↓Zer, ↓Zes, ↓Zet, ↓Zeu, ↓Zev, ↓Zew, ↓Zex, ↓Zey, ↓Zez, ↓Zfa, ↓Zfb, ↓Zfc, ↓Zfd, ↓Zfe, ↓Zff, ↓Zfg, ↓Zfh, ↓Zfi, ↓Zfj, ↓Zfk, ↓Zfl, ↓Zfm, ↓Zfn, ↓Zfo, ↓Zfp, ↓Zfq, ↓Zfr, ↓Zfs, ↓Zft, ↓Zfu, ↓Zfv, ↓Zfw, ↓Zfx, ↓Zfy, ↓Zfz, ↓Zga, ↓Zgb, ↓Zgc, ↓Zgd, ↓Zge, ↓Zgf, ↓Zgg, ↓Zgh, ↓Zgi, ↓Zgj, ↓Zgk, ↓Zgl, ↓Zgm, ↓Zgn, ↓Zgo, ↓Zgp, ↓Zgq, ↓Zgr, ↓Zgs, ↓Zgt, ↓Zgu, ↓Zgv, ↓Zgw, ↓Zgx, ↓Zgy, ↓Zgz, ↓Zha, ↓Zhb, ↓Zhc, ↓Zhd, ↓Zhe, ↓Zhf, ↓Zhg, ↓Zhh, ↓Zhi, ↓Zhj, ↓Zhk, ↓Zhl, ↓Zhm, ↓Zhn, ↓Zho, ↓Zhp, ↓Zhq, ↓Zhr, ↓Zhs, ↓Zht, ↓Zhu, ↓Zhv, ↓Zhw, ↓Zhx, ↓Zhy, ↓Zhz, ↓Zia, ↓Zib, ↓Zic, ↓Zid, ↓Zie, ↓Zif, ↓Zig, ↓Zih, ↓Zii, ↓Zij, ↓Zik, ↓Zil, ↓Zim, ↓Zin, ↓Zio, ↓Ziq, ↓Zir, ↓Zis, ↓Zit, ↓Ziu, ↓Ziv, ↓Ziw, ↓Zix, ↓Ziy, ↓Ziz, ↓Zja, ↓Zjb, ↓Zjc, ↓Zjd, ↓Zje, ↓Zjf, ↓Zjg, ↓Zjh, ↓Zji, ↓Zjj, ↓Zjk, ↓Zjl, ↓Zjm, ↓Zjn, ↓Zjo, ↓Zjp, ↓Zjq, ↓Zjr, ↓Zjs, ↓Zjt, ↓Zju, ↓Zjv, ↓Zjw, ↓Zjx, ↓Zjy, ↓Zjz, ↓Zka, ↓Zkb, ↓Zkc, ↓Zkd, ↓Zke, ↓Zkf, ↓Zkg, ↓Zkh, ↓Zki, ↓Zkj, ↓Zkk, ↓Zkl, ↓Zkm, ↓Zkn, ↓Zko, ↓Zkp, ↓Zkq, ↓Zkr, ↓Zks, ↓Zkt, ↓Zku, ↓Zkv, ↓Zkw, ↓Zkx, ↓Zky, ↓Zkz, reduceIte, if_true, if_false, Bool.false_eq_true, Bool.and_true, Bool.true_and, Bool.and_false, Bool.false_and, Bool.or_true, Bool.true_or, Bool.or_false, Bool.false_or, Int.cast_ofNat_Int, Zla, Zlb, beq_self_eq_true, Int.reduceBEq, Int.reduceLT, Int.reduceLE, Int.reduceEq, Int.reduceNeg, Nat.reduceLT, Zlc, Zld, Zle, Zlf, Zlg, Zlh, Zli, Zlj, Zlk, Zll, Zlm, Zln, Zlo, Zlp, Zlq, Zlr, Zls, Zlt, Zlu, Zlv, Zlw, Zlx, Zly, Zlz, Zma, Zmb, Zmc, Zmd, Zme, Zmf, Zmg, Zmh, Zmi, Zmj, Zmk, Zml, Zmm, Zmn, Zmo, Zmp, Zmq, Zmr, Zms, Zmt, Zmu, Zmv, Zmw, Zmx, Zmy, Zmz, Zna, Znb, Znc, Znd, Zne, Znf, Zng, Znh, Zni, Znj, Znk, Znl, Znm, Znn, Zno, List.lookup_nil, Znp, Znq, Option.map_some, Option.map_none, Option.bind_some, Option.bind_none, List.map_nil, List.map_cons, List.nil_append, List.cons_append, List.append_nil, List.length_cons, List.length_nil, Nat.reduceAdd, Nat.reduceLeDiff, Nat.reduceEqDiff, Nat.reduceBEq, decide_true, decide_false, Bool.not_true, Bool.not_false, Znr, Zns, Znt, Znu, Znv, Znw, Znx, Zny, Znz, Zoa, Zob, Zoc, Zod, Zoe, List.getElem?_cons_zero, List.getElem?_cons_succ, Zof, Zog, Zoh, Zoi, Zoj, Zok, Zol, Zom, Zon, Zoo, Zop, Zoq, Zor, Zos, Zot, Zou, Zov, Zow, Zox, Zoy, setX, Zoz, Zpa, Zpb, Int.ofNat_lt, Int.ofNat_le, Zpc, Zpd, Zpe, Zpf, Zpg, Zph, Zop, e, decide_eq_false h]
        first | exact ⟨rfl, rfl, trivial⟩ | exact ⟨_, rfl, rfl, rfl, rfl⟩ | exact ⟨rfl, rfl, rfl⟩
  · simp -implicitDefEqProofs -dsimp only [↓Zaa, ↓Zab, ↓Zac, ↓Zad, ↓Zae, ↓Zaf, ↓Zag, ↓Zah, ↓Zai, ↓Zaj, ↓Zak, ↓Zal, ↓Zam, ↓Zan, ↓Zao, ↓Zap, ↓Zaq, ↓Zar, ↓Zas, ↓Zat, ↓Zau, ↓Zav, ↓Zaw, ↓Zax, ↓Zay, ↓Zaz, ↓Zba, ↓Zbb, ↓Zbc, ↓Zbd, ↓Zbe, ↓Zbf, ↓Zbg, ↓Zbh, ↓Zbi, ↓Zbj, ↓Zbk, ↓Zbl, ↓Zbm, ↓Zbn, ↓Zbo, ↓Zbp, ↓Zbq, ↓Zbr, ↓Zbs, ↓Zbt, ↓Zbu, ↓Zbv, ↓Zbw, ↓Zbx, ↓Zby, ↓Zbz, ↓Zca, ↓Zcb, ↓Zcc, ↓Zcd, ↓Zce, ↓Zcf, ↓Zcg, ↓Zch, ↓Zci, ↓Zcj, ↓Zck, ↓Zcl, ↓Zcm, ↓Zcn, ↓Zco, ↓Zcp, ↓Zcq, ↓Zcr, ↓Zcs, ↓Zct, ↓Zcu, ↓Zcv, ↓Zcw, ↓Zcx, ↓Zcy, ↓Zcz, ↓Zda, ↓Zdb, ↓Zdc, ↓Zdd, ↓Zde, ↓Zdf, ↓Zdg, ↓Zdh, ↓Zdi, ↓Zdj, ↓Zdk, ↓Zdl, ↓Zdm, ↓Zdn, ↓Zdo, ↓Zdp, ↓Zdq, ↓Zdr, ↓Zds, ↓Zdt, ↓Zdu, ↓Zdv, ↓Zdw, ↓Zdx, ↓Zdy, ↓Zdz, ↓Zea, ↓Zeb, ↓Zec, ↓Zed, ↓Zee, ↓Zef, ↓Zeg, ↓Zeh, ↓Zei, ↓Zej, ↓Zek, ↓Zel, ↓Zem, ↓Zen, ↓Zeo, ↓Zep, ↓Zeq, ↓Zer, ↓Zes, ↓Zet, ↓Zeu, ↓Zev, ↓Zew, ↓Zex, ↓Zey, ↓Zez, ↓Zfa, ↓Zfb, ↓Zfc, ↓Zfd, ↓Zfe, ↓Zff, ↓Zfg, ↓Zfh, ↓Zfi, ↓Zfj, ↓Zfk, ↓Zfl, ↓Zfm, ↓Zfn, ↓Zfo, ↓Zfp, ↓Zfq, ↓Zfr, ↓Zfs, ↓Zft, ↓Zfu, ↓Zfv, ↓Zfw, ↓Zfx, ↓Zfy, ↓Zfz, ↓Zga, ↓Zgb, ↓Zgc, ↓Zgd, ↓Zge, ↓Zgf, ↓Zgg, ↓Zgh, ↓Zgi, ↓Zgj, ↓Zgk, ↓Zgl, ↓Zgm, ↓Zgn, ↓Zgo, ↓Zgp, ↓Zgq, ↓Zgr, ↓Zgs, ↓Zgt, ↓Zgu, ↓Zgv, ↓Zgw, ↓Zgx, ↓Zgy, ↓Zgz, ↓Zha, ↓Zhb, ↓Zhc, ↓Zhd, ↓Zhe, ↓Zhf, ↓Zhg, ↓Zhh, ↓Zhi, ↓Zhj, ↓Zhk, ↓Zhl, ↓Zhm, ↓Zhn, ↓Zho, ↓Zhp, ↓Zhq, ↓Zhr, ↓Zhs, ↓Zht, ↓Zhu, ↓Zhv, ↓Zhw, ↓Zhx, ↓Zhy, ↓Zhz, ↓Zia, ↓Zib, ↓Zic, ↓Zid, ↓Zie, ↓Zif, ↓Zig, ↓Zih, ↓Zii, ↓Zij, ↓Zik, ↓Zil, ↓Zim, ↓Zin, ↓Zio, ↓Ziq, ↓Zir, ↓Zis, ↓Zit, ↓Ziu, ↓Ziv, ↓Ziw, ↓Zix, ↓Ziy, ↓Ziz, ↓Zja, ↓Zjb, ↓Zjc, ↓Zjd, ↓Zje, ↓Zjf, ↓Zjg, ↓Zjh, ↓Zji, ↓Zjj, ↓Zjk, ↓Zjl, ↓Zjm, ↓Zjn, ↓Zjo, ↓Zjp, ↓Zjq, ↓Zjr, ↓Zjs, ↓Zjt, ↓Zju, ↓Zjv, ↓Zjw, ↓Zjx, ↓Zjy, ↓Zjz, ↓Zka, ↓Zkb, ↓Zkc, ↓Zkd, ↓Zke, ↓Zkf, ↓Zkg, ↓Zkh, ↓Zki, ↓Zkj, ↓Zkk, ↓Zkl, ↓Zkm, ↓Zkn, ↓Zko, ↓Zkp, ↓Zkq, ↓Zkr, ↓Zks, ↓Zkt, ↓Zku, ↓Zkv, ↓Zkw, ↓Zkx, ↓Zky, ↓Zkz, reduceIte, if_true, if_false, Bool.false_eq_true, Bool.and_true, Bool.true_and, Bool.and_false, Bool.false_and, Bool.or_true, Bool.true_or, Bool.or_false, Bool.false_or, Int.cast_ofNat_Int, Zla, Zlb, beq_self_eq_true, Int.reduceBEq, Int.reduceLT, Int.reduceLE, Int.reduceEq, Int.reduceNeg, Nat.reduceLT, Zlc, Zld, Zle, Zlf, Zlg, Zlh, Zli, Zlj, Zlk, Zll, Zlm, Zln, Zlo, Zlp, Zlq, Zlr, Zls, Zlt, Zlu, Zlv, Zlw, Zlx, Zly, Zlz, Zma, Zmb, Zmc, Zmd, Zme, Zmf, Zmg, Zmh, Zmi, Zmj, Zmk, Zml, Zmm, Zmn, Zmo, Zmp, Zmq, Zmr, Zms, Zmt, Zmu, Zmv, Zmw, Zmx, Zmy, Zmz, Zna, Znb, Znc, Znd, Zne, Znf, Zng, Znh, Zni, Znj, Znk, Znl, Znm, Znn, Zno, List.lookup_nil, Znp, Znq, Option.map_some, Option.map_none, Option.bind_some, Option.bind_none, List.map_nil, List.map_cons, List.nil_append, List.cons_append, List.append_nil, List.length_cons, List.length_nil, Nat.reduceAdd, Nat.reduceLeDiff, Nat.reduceEqDiff, Nat.reduceBEq, decide_true, decide_false, Bool.not_true, Bool.not_false, Znr, Zns, Znt, Znu, Znv, Znw, Znx, Zny, Znz, Zoa, Zob, Zoc, Zod, Zoe, List.getElem?_cons_zero, List.getElem?_cons_succ, Zof, Zog, Zoh, Zoi, Zoj, Zok, Zol, Zom, Zon, Zoo, Zop, Zoq, Zor, Zos, Zot, Zou, Zov, Zow, Zox, Zoy, setX, Zoz, Zpa, Zpb, Int.ofNat_lt, Int.ofNat_le, Zpc, Zpd, Zpe, Zpf, Zpg, Zph]
def lpF (w : List Nat) (c : Nat) : Nat → Nat → Nat
  | 0, p => p
  | k + 1, p => if Loc w c p then p else lpF w c k (p + 1)
theorem lpF_spec {w : List Nat} {c : Nat} : ∀ {k p : Nat}, (∃ q, p ≤ q ∧ q ≤ p + k ∧ Loc w c q) → Loc w c (lpF w c k p) ∧ p ≤ lpF w c k p ∧ ∀ q, p ≤ q → q < lpF w c k p → ¬ Loc w c q
  | 0, p, ⟨q, h1, h2, h3⟩ => by
    have e : q = p := by omega
    subst e
    exact ⟨h3, Nat.le_refl _, fun r h1 (h2 : r < q) => by omega⟩
  | k + 1, p, ⟨q, h1, h2, h3⟩ => by
    unfold lpF
    by_cases h : Loc w c p
    · rw [if_pos h]
      exact ⟨h, Nat.le_refl _, fun r h1 h2 => by omega⟩
    · rw [if_neg h]
      have hq : q ≠ p := fun e => h (e ▸ h3)
      obtain ⟨a, b, d⟩ := lpF_spec (k := k) (p := p + 1) ⟨q, by omega, by omega, h3⟩
      refine ⟨a, by omega, fun r h1 h2 => ?_⟩
      by_cases e : r = p
      · rw [e]; exact h
      · exact d r (by omega) h2
def lp (w : List Nat) (c : Nat) : Nat := lpF w c w.length 1
theorem lp_spec {w : List Nat} {c : Nat} (h : 0 < w.length) : Loc w c (lp w c) ∧ 1 ≤ lp w c ∧ lp w c ≤ w.length ∧ ∀ q, 1 ≤ q → q < lp w c → ¬ Loc w c q := by
  have hn : Loc w c w.length := fun i _ _ h3 => by omega
  obtain ⟨a, b, d⟩ := lpF_spec (w := w) (c := c) (k := w.length) (p := 1) ⟨w.length, by omega, by omega, hn⟩
  refine ⟨a, b, ?_, d⟩
  apply Classical.byContradiction
  intro hc
  exact d w.length (by omega) (by show w.length < lp w c; omega) hn
theorem q_rep {w : List Nat} (hw : Wd w) {c p : Nat} (hc : c ≤ w.length) (hp : p ≤ w.length) : φ_repeats_about [.val (.str w), .val (.int c), .val (.int p)] = .ok (.d (.bl (decide (Loc w c p)))) [] := by
  apply run_repeats_about
  unfold g_repeats_about
  have hl := hw.len
  have hl2 : w.length ≤ 16777216 := by omega
  have e1 : max 0 ((c : Int) - (p : Int)) = ((c - p : Nat) : Int) := by omega
  have e2 : min (c : Int) ((w.length : Int) - (p : Int)) = ((min c (w.length - p) : Nat) : Int) := by omega
  have s1 := smI_ok (show c - p ≤ 16777216 by omega)
  have s2 := smI_ok (show min c (w.length - p) ≤ 16777216 by omega)
  simp -implicitDefEqProofs -dsimp only [↓Zaa, ↓Zab, ↓Zac, ↓Zad, ↓Zae, ↓Zaf, ↓Zag, ↓Zah, ↓Zai, ↓Zaj, ↓Zak, ↓Zal, ↓Zam, ↓Zan, ↓Zao, ↓Zap, ↓Zaq, ↓Zar, ↓Zas, ↓Zat, ↓Zau, ↓Zav, ↓Zaw, ↓Zax, ↓Zay, ↓Zaz, ↓Zba, ↓Zbb, ↓Zbc, ↓Zbd, ↓Zbe, ↓Zbf, ↓Zbg, ↓Zbh, ↓Zbi, ↓Zbj, ↓Zbk, ↓Zbl, ↓Zbm, ↓Zbn, ↓Zbo, ↓Zbp, ↓Zbq, ↓Zbr, ↓Zbs, ↓Zbt, ↓Zbu, ↓Zbv, ↓Zbw, ↓Zbx, ↓Zby, ↓Zbz, ↓Zca, ↓Zcb, ↓Zcc, ↓Zcd, ↓Zce, ↓Zcf, ↓Zcg, ↓Zch, ↓Zci, ↓Zcj, ↓Zck, ↓Zcl, ↓Zcm, ↓Zcn, ↓Zco, ↓Zcp, ↓Zcq, ↓Zcr, ↓Zcs, ↓Zct, ↓Zcu, ↓Zcv, ↓Zcw, ↓Zcx, ↓Zcy, ↓Zcz, ↓Zda, ↓Zdb, ↓Zdc, ↓Zdd, ↓Zde, ↓Zdf, ↓Zdg, ↓Zdh, ↓Zdi, ↓Zdj, ↓Zdk, ↓Zdl, ↓Zdm, ↓Zdn, ↓Zdo, ↓Zdp, ↓Zdq, ↓Zdr, ↓Zds, ↓Zdt, ↓Zdu, ↓Zdv, ↓Zdw, ↓Zdx, ↓Zdy, ↓Zdz, ↓Zea, ↓Zeb, ↓Zec, ↓Zed, ↓Zee, ↓Zef, ↓Zeg, ↓Zeh, ↓Zei, ↓Zej, ↓Zek, ↓Zel, ↓Zem, ↓Zen, ↓Zeo, ↓Zep, ↓Zeq, ↓Zer, ↓Zes, ↓Zet, ↓Zeu, ↓Zev, ↓Zew, ↓Zex, ↓Zey, ↓Zez, ↓Zfa, ↓Zfb, ↓Zfc, ↓Zfd, ↓Zfe, ↓Zff, ↓Zfg, ↓Zfh, ↓Zfi, ↓Zfj, ↓Zfk, ↓Zfl, ↓Zfm, ↓Zfn, ↓Zfo, ↓Zfp, ↓Zfq, ↓Zfr, ↓Zfs, ↓Zft, ↓Zfu, ↓Zfv, ↓Zfw, ↓Zfx, ↓Zfy, ↓Zfz, ↓Zga, ↓Zgb, ↓Zgc, ↓Zgd, ↓Zge, ↓Zgf, ↓Zgg, ↓Zgh, ↓Zgi, ↓Zgj, ↓Zgk, ↓Zgl, ↓Zgm, ↓Zgn, ↓Zgo, ↓Zgp, ↓Zgq, ↓Zgr, ↓Zgs, ↓Zgt, ↓Zgu, ↓Zgv, ↓Zgw, ↓Zgx, ↓Zgy, ↓Zgz, ↓Zha, ↓Zhb, ↓Zhc, ↓Zhd, ↓Zhe, ↓Zhf, ↓Zhg, ↓Zhh, ↓Zhi, ↓Zhj, ↓Zhk, ↓Zhl, ↓Zhm, ↓Zhn, ↓Zho, ↓Zhp, ↓Zhq, ↓Zhr, ↓Zhs, ↓Zht, ↓Zhu, ↓Zhv, ↓Zhw, ↓Zhx, ↓Zhy, ↓Zhz, ↓Zia, ↓Zib, ↓Zic, ↓Zid, ↓Zie, ↓Zif, ↓Zig, ↓Zih, ↓Zii, ↓Zij, ↓Zik, ↓Zil, ↓Zim, ↓Zin, ↓Zio, ↓Ziq, ↓Zir, ↓Zis, ↓Zit, ↓Ziu, ↓Ziv, ↓Ziw, ↓Zix, ↓Ziy, ↓Ziz, ↓Zja, ↓Zjb, ↓Zjc, ↓Zjd, ↓Zje, ↓Zjf, ↓Zjg, ↓Zjh, ↓Zji, ↓Zjj, ↓Zjk, ↓Zjl, ↓Zjm, ↓Zjn, ↓Zjo, ↓Zjp, ↓Zjq, ↓Zjr, ↓Zjs, ↓Zjt, ↓Zju, ↓Zjv, ↓Zjw, ↓Zjx, ↓Zjy, ↓Zjz, ↓Zka, ↓Zkb, ↓Zkc, ↓Zkd, ↓Zke, ↓Zkf, ↓Zkg, ↓Zkh, ↓Zki, ↓Zkj, ↓Zkk, ↓Zkl, ↓Zkm, ↓Zkn, ↓Zko, ↓Zkp, ↓Zkq, ↓Zkr, ↓Zks, ↓Zkt, ↓Zku, ↓Zkv, ↓Zkw, ↓Zkx, ↓Zky, ↓Zkz, reduceIte, if_true, if_false, Bool.false_eq_true, Bool.and_true, Bool.true_and, Bool.and_false, Bool.false_and, Bool.or_true, Bool.true_or, Bool.or_false, Bool.false_or, Int.cast_ofNat_Int, Zla, Zlb, beq_self_eq_true, Int.reduceBEq, Int.reduceLT, Int.reduceLE, Int.reduceEq, Int.reduceNeg, Nat.reduceLT, Zlc, Zld, Zle, Zlf, Zlg, Zlh, Zli, Zlj, Zlk, Zll, Zlm, Zln, Zlo, Zlp, Zlq, Zlr, Zls, Zlt, Zlu, Zlv, Zlw, Zlx, Zly, Zlz, Zma, Zmb, Zmc, Zmd, Zme, Zmf, Zmg, Zmh, Zmi, Zmj, Zmk, Zml, Zmm, Zmn, Zmo, Zmp, Zmq, Zmr, Zms, Zmt, Zmu, Zmv, Zmw, Zmx, Zmy, Zmz, Zna, Znb, Znc, Znd, Zne, Znf, Zng, Znh, Zni, Znj, Znk, Znl, Znm, Znn, Zno, List.lookup_nil, Znp, Znq, Option.map_some, Option.map_none, Option.bind_some, Option.bind_none, List.map_nil, List.map_cons, List.nil_append, List.cons_append, List.append_nil, List.length_cons, List.length_nil, Nat.reduceAdd, Nat.reduceLeDiff, Nat.reduceEqDiff, Nat.reduceBEq, decide_true, decide_false, Bool.not_true, Bool.not_false, Znr, Zns, Znt, Znu, Znv, Znw, Znx, Zny, Znz, Zoa, Zob, Zoc, Zod, Zoe, List.getElem?_cons_zero, List.getElem?_cons_succ, Zof, Zog, Zoh, Zoi, Zoj, Zok, Zol, Zom, Zon, Zoo, Zop, Zoq, Zor, Zos, Zot, Zou, Zov, Zow, Zox, Zoy, setX, Zoz, Zpa, Zpb, Int.ofNat_lt, Int.ofNat_le, Zpc, Zpd, Zpe, Zpf, Zpg, Zph, bLen_s hl2, e1, e2, s1, s2]
  rw [rngG (lo := ((c - p : Nat) : Int)) (a := c - p) (k := min c (w.length - p) - (c - p)) rfl (by omega)]
  refine lc_map (l := List.range (min c (w.length - p) - (c - p))) (g := fun j => .int ((c - p + j : Nat) : Int)) (fun j => .bl (decide (w[c - p + j]? = w[c - p + j + p]?))) rfl (by simp; omega) (fun j hj => ?_) ?_
  · have hj := List.mem_range.mp hj
    have h1 : c - p + j < w.length := by omega
    have h2 : c - p + j + p < w.length := by omega
    have ea : ((c - p + j : Nat) : Int) + (p : Int) = ((c - p + j + p : Nat) : Int) := by omega
    have e := ch_eq h1 h2
    simp only [wipeE, List.set_cons_zero, List.set_cons_succ]
    simp -implicitDefEqProofs -dsimp only [↓Zaa, ↓Zab, ↓Zac, ↓Zad, ↓Zae, ↓Zaf, ↓Zag, ↓Zah, ↓Zai, ↓Zaj, ↓Zak, ↓Zal, ↓Zam, ↓Zan, ↓Zao, ↓Zap, ↓Zaq, ↓Zar, ↓Zas, ↓Zat, ↓Zau, ↓Zav, ↓Zaw, ↓Zax, ↓Zay, ↓Zaz, ↓Zba, ↓Zbb, ↓Zbc, ↓Zbd, ↓Zbe, ↓Zbf, ↓Zbg, ↓Zbh, ↓Zbi, ↓Zbj, ↓Zbk, ↓Zbl, ↓Zbm, ↓Zbn, ↓Zbo, ↓Zbp, ↓Zbq, ↓Zbr, ↓Zbs, ↓Zbt, ↓Zbu, ↓Zbv, ↓Zbw, ↓Zbx, ↓Zby, ↓Zbz, ↓Zca, ↓Zcb, ↓Zcc, ↓Zcd, ↓Zce, ↓Zcf, ↓Zcg, ↓Zch, ↓Zci, ↓Zcj, ↓Zck, ↓Zcl, ↓Zcm, ↓Zcn, ↓Zco, ↓Zcp, ↓Zcq, ↓Zcr, ↓Zcs, ↓Zct, ↓Zcu, ↓Zcv, ↓Zcw, ↓Zcx, ↓Zcy, ↓Zcz, ↓Zda, ↓Zdb, ↓Zdc, ↓Zdd, ↓Zde, ↓Zdf, ↓Zdg, ↓Zdh, ↓Zdi, ↓Zdj, ↓Zdk, ↓Zdl, ↓Zdm, ↓Zdn, ↓Zdo, ↓Zdp, ↓Zdq, ↓Zdr, ↓Zds, ↓Zdt, ↓Zdu, ↓Zdv, ↓Zdw, ↓Zdx, ↓Zdy, ↓Zdz, ↓Zea, ↓Zeb, ↓Zec, ↓Zed, ↓Zee, ↓Zef, ↓Zeg, ↓Zeh, ↓Zei, ↓Zej, ↓Zek, ↓Zel, ↓Zem, ↓Zen, ↓Zeo, ↓Zep, ↓Zeq, ↓Zer, ↓Zes, ↓Zet, ↓Zeu, ↓Zev, ↓Zew, ↓Zex, ↓Zey, ↓Zez, ↓Zfa, ↓Zfb, ↓Zfc, ↓Zfd, ↓Zfe, ↓Zff, ↓Zfg, ↓Zfh, ↓Zfi, ↓Zfj, ↓Zfk, ↓Zfl, ↓Zfm, ↓Zfn, ↓Zfo, ↓Zfp, ↓Zfq, ↓Zfr, ↓Zfs, ↓Zft, ↓Zfu, ↓Zfv, ↓Zfw, ↓Zfx, ↓Zfy, ↓Zfz, ↓Zga, ↓Zgb, ↓Zgc, ↓Zgd, ↓Zge, ↓Zgf, ↓Zgg, ↓Zgh, ↓Zgi, ↓Zgj, ↓Zgk, ↓Zgl, ↓Zgm, ↓Zgn, ↓Zgo, ↓Zgp, ↓Zgq, ↓Zgr, ↓Zgs, ↓Zgt, ↓Zgu, ↓Zgv, ↓Zgw, ↓Zgx, ↓Zgy, ↓Zgz, ↓Zha, ↓Zhb, ↓Zhc, ↓Zhd, ↓Zhe, ↓Zhf, ↓Zhg, ↓Zhh, ↓Zhi, ↓Zhj, ↓Zhk, ↓Zhl, ↓Zhm, ↓Zhn, ↓Zho, ↓Zhp, ↓Zhq, ↓Zhr, ↓Zhs, ↓Zht, ↓Zhu, ↓Zhv, ↓Zhw, ↓Zhx, ↓Zhy, ↓Zhz, ↓Zia, ↓Zib, ↓Zic, ↓Zid, ↓Zie, ↓Zif, ↓Zig, ↓Zih, ↓Zii, ↓Zij, ↓Zik, ↓Zil, ↓Zim, ↓Zin, ↓Zio, ↓Ziq, ↓Zir, ↓Zis, ↓Zit, ↓Ziu, ↓Ziv, ↓Ziw, ↓Zix, ↓Ziy, ↓Ziz, ↓Zja, ↓Zjb, ↓Zjc, ↓Zjd, ↓Zje, ↓Zjf, ↓Zjg, ↓Zjh, ↓Zji, ↓Zjj, ↓Zjk, ↓Zjl, ↓Zjm, ↓Zjn, ↓Zjo, ↓Zjp, ↓Zjq, ↓Zjr, ↓Zjs, ↓Zjt, ↓Zju, ↓Zjv, ↓Zjw, ↓Zjx, ↓Zjy, ↓Zjz, ↓Zka, ↓Zkb, ↓Zkc, ↓Zkd, ↓Zke, ↓Zkf, ↓Zkg, ↓Zkh, ↓Zki, ↓Zkj, ↓Zkk, ↓Zkl, ↓Zkm, ↓Zkn, ↓Zko, ↓Zkp, ↓Zkq, ↓Zkr, ↓Zks, ↓Zkt, ↓Zku, ↓Zkv, ↓Zkw, ↓Zkx, ↓Zky, ↓Zkz, reduceIte, if_true, if_false, Bool.false_eq_true, Bool.and_true, Bool.true_and, Bool.and_false, Bool.false_and, Bool.or_true, Bool.true_or, Bool.or_false, Bool.false_or, Int.cast_ofNat_Int, Zla, Zlb, beq_self_eq_true, Int.reduceBEq, Int.reduceLT, Int.reduceLE, Int.reduceEq, Int.reduceNeg, Nat.reduceLT, Zlc, Zld, Zle, Zlf, Zlg, Zlh, Zli, Zlj, Zlk, Zll, Zlm, Zln, Zlo, Zlp, Zlq, Zlr, Zls, Zlt, Zlu, Zlv, Zlw, Zlx, Zly, Zlz, Zma, Zmb, Zmc, Zmd, Zme, Zmf, Zmg, Zmh, Zmi, Zmj, Zmk, Zml, Zmm, Zmn, Zmo, Zmp, Zmq, Zmr, Zms, Zmt, Zmu, Zmv, Zmw, Zmx, Zmy, Zmz, Zna, Znb, Znc, Znd, Zne, Znf, Zng, Znh, Zni, Znj, Znk, Znl, Znm, Znn, Zno, List.lookup_nil, Znp, Znq, Option.map_some, Option.map_none, Option.bind_some, Option.bind_none, List.map_nil, List.map_cons, List.nil_append, List.cons_append, List.append_nil, List.length_cons, List.length_nil, Nat.reduceAdd, Nat.reduceLeDiff, Nat.reduceEqDiff, Nat.reduceBEq, decide_true, decide_false, Bool.not_true, Bool.not_false, Znr, Zns, Znt, Znu, Znv, Znw, Znx, Zny, Znz, Zoa, Zob, Zoc, Zod, Zoe, List.getElem?_cons_zero, List.getElem?_cons_succ, Zof, Zog, Zoh, Zoi, Zoj, Zok, Zol, Zom, Zon, Zoo, Zop, Zoq, Zor, Zos, Zot, Zou, Zov, Zow, Zox, Zoy, setX, Zoz, Zpa, Zpb, Int.ofNat_lt, Int.ofNat_le, Zpc, Zpd, Zpe, Zpf, Zpg, Zph, ixD_s hl2, ea, List.getElem?_eq_getElem h1, List.getElem?_eq_getElem h2, e]
    refine ⟨rfl, rfl, ?_⟩
    simp only [List.getElem?_eq_getElem h1, List.getElem?_eq_getElem h2]
  · have e : (List.range (min c (w.length - p) - (c - p))).all (fun j => decide (w[c - p + j]? = w[c - p + j + p]?)) = decide (Loc w c p) := by
      rw [Bool.eq_iff_iff, List.all_eq_true, decide_eq_true_iff]
      constructor
      · intro h i h1 h2 h3
        have := h (i - (c - p)) (List.mem_range.mpr (by omega))
        rw [decide_eq_true_iff, show c - p + (i - (c - p)) = i by omega] at this
        exact this
      · intro h j hj
        have hj := List.mem_range.mp hj
        rw [decide_eq_true_iff]
        exact h _ (by omega) (by omega) (by omega)
    simp -implicitDefEqProofs -dsimp only [↓Zaa, ↓Zab, ↓Zac, ↓Zad, ↓Zae, ↓Zaf, ↓Zag, ↓Zah, ↓Zai, ↓Zaj, ↓Zak, ↓Zal, ↓Zam, ↓Zan, ↓Zao, ↓Zap, ↓Zaq, ↓Zar, ↓Zas, ↓Zat, ↓Zau, ↓Zav, ↓Zaw, ↓Zax, ↓Zay, ↓Zaz, ↓Zba, ↓Zbb, ↓Zbc, ↓Zbd, ↓Zbe, ↓Zbf, ↓Zbg, ↓Zbh, ↓Zbi, ↓Zbj, ↓Zbk, ↓Zbl, ↓Zbm, ↓Zbn, ↓Zbo, ↓Zbp, ↓Zbq, ↓Zbr, ↓Zbs, ↓Zbt, ↓Zbu, ↓Zbv, ↓Zbw, ↓Zbx, ↓Zby, ↓Zbz, ↓Zca, ↓Zcb, ↓Zcc, ↓Zcd, ↓Zce, ↓Zcf, ↓Zcg, ↓Zch, ↓Zci, ↓Zcj, ↓Zck, ↓Zcl, ↓Zcm, ↓Zcn, ↓Zco, ↓Zcp, ↓Zcq, ↓Zcr, ↓Zcs, ↓Zct, ↓Zcu, ↓Zcv, ↓Zcw, ↓Zcx, ↓Zcy, ↓Zcz, ↓Zda, ↓Zdb, ↓Zdc, ↓Zdd, ↓Zde, ↓Zdf, ↓Zdg, ↓Zdh, ↓Zdi, ↓Zdj, ↓Zdk, ↓Zdl, ↓Zdm, ↓Zdn, ↓Zdo, ↓Zdp, ↓Zdq, ↓Zdr, ↓Zds, ↓Zdt, ↓Zdu, ↓Zdv, ↓Zdw, ↓Zdx, ↓Zdy, ↓Zdz, ↓Zea, ↓Zeb, ↓Zec, ↓Zed, ↓Zee, ↓Zef, ↓Zeg, ↓Zeh, ↓Zei, ↓Zej, ↓Zek, ↓Zel, ↓Zem, ↓Zen, ↓Zeo, ↓Zep, ↓Zeq, ↓Zer, ↓Zes, ↓Zet, ↓Zeu, ↓Zev, ↓Zew, ↓Zex, ↓Zey, ↓Zez, ↓Zfa, ↓Zfb, ↓Zfc, ↓Zfd, ↓Zfe, ↓Zff, ↓Zfg, ↓Zfh, ↓Zfi, ↓Zfj, ↓Zfk, ↓Zfl, ↓Zfm, ↓Zfn, ↓Zfo, ↓Zfp, ↓Zfq, ↓Zfr, ↓Zfs, ↓Zft, ↓Zfu, ↓Zfv, ↓Zfw, ↓Zfx, ↓Zfy, ↓Zfz, ↓Zga, ↓Zgb, ↓Zgc, ↓Zgd, ↓Zge, ↓Zgf, ↓Zgg, ↓Zgh, ↓Zgi, ↓Zgj, ↓Zgk, ↓Zgl, ↓Zgm, ↓Zgn, ↓Zgo, ↓Zgp, ↓Zgq, ↓Zgr, ↓Zgs, ↓Zgt, ↓Zgu, ↓Zgv, ↓Zgw, ↓Zgx, ↓Zgy, ↓Zgz, ↓Zha, ↓Zhb, ↓Zhc, ↓Zhd, ↓Zhe, ↓Zhf, ↓Zhg, ↓Zhh, ↓Zhi, ↓Zhj, ↓Zhk, ↓Zhl, ↓Zhm, ↓Zhn, ↓Zho, ↓Zhp, ↓Zhq, ↓Zhr, ↓Zhs, ↓Zht, ↓Zhu, ↓Zhv, ↓Zhw, ↓Zhx, ↓Zhy, ↓Zhz, ↓Zia, ↓Zib, ↓Zic, ↓Zid, ↓Zie, ↓Zif, ↓Zig, ↓Zih, ↓Zii, ↓Zij, ↓Zik, ↓Zil, ↓Zim, ↓Zin, ↓Zio, ↓Ziq, ↓Zir, ↓Zis, ↓Zit, ↓Ziu, ↓Ziv, ↓Ziw, ↓Zix, ↓Ziy, ↓Ziz, ↓Zja, ↓Zjb, ↓Zjc, ↓Zjd, ↓Zje, ↓Zjf, ↓Zjg, ↓Zjh, ↓Zji, ↓Zjj, ↓Zjk, ↓Zjl, ↓Zjm, ↓Zjn, ↓Zjo, ↓Zjp, ↓Zjq, ↓Zjr, ↓Zjs, ↓Zjt, ↓Zju, ↓Zjv, ↓Zjw, ↓Zjx, ↓Zjy, ↓Zjz, ↓Zka, ↓Zkb, ↓Zkc, ↓Zkd, ↓Zke, ↓Zkf, ↓Zkg, ↓Zkh, ↓Zki, ↓Zkj, ↓Zkk, ↓Zkl, ↓Zkm, ↓Zkn, ↓Zko, ↓Zkp, ↓Zkq, ↓Zkr, ↓Zks, ↓Zkt, ↓Zku, ↓Zkv, ↓Zkw, ↓Zkx, ↓Zky, ↓Zkz, reduceIte, if_true, if_false, Bool.false_eq_true, Bool.and_true, Bool.true_and, Bool.and_false, Bool.false_and, Bool.or_true, Bool.true_or, Bool.or_false, Bool.false_or, Int.cast_ofNat_Int, Zla, Zlb, beq_self_eq_true, Int.reduceBEq, Int.reduceLT, Int.reduceLE, Int.reduceEq, Int.reduceNeg, Nat.reduceLT, Zlc, Zld, Zle, Zlf, Zlg, Zlh, Zli, Zlj, Zlk, Zll, Zlm, Zln, Zlo, Zlp, Zlq, Zlr, Zls, Zlt, Zlu, Zlv, Zlw, Zlx, Zly, Zlz, Zma, Zmb, Zmc, Zmd, Zme, Zmf, Zmg, Zmh, Zmi, Zmj, Zmk, Zml, Zmm, Zmn, Zmo, Zmp, Zmq, Zmr, Zms, Zmt, Zmu, Zmv, Zmw, Zmx, Zmy, Zmz, Zna, Znb, Znc, Znd, Zne, Znf, Zng, Znh, Zni, Znj, Znk, Znl, Znm, Znn, Zno, List.lookup_nil, Znp, Znq, Option.map_some, Option.map_none, Option.bind_some, Option.bind_none, List.map_nil, List.map_cons, List.nil_append, List.cons_append, List.append_nil, List.length_cons, List.length_nil, Nat.reduceAdd, Nat.reduceLeDiff, Nat.reduceEqDiff, Nat.reduceBEq, decide_true, decide_false, Bool.not_true, Bool.not_false, Znr, Zns, Znt, Znu, Znv, Znw, Znx, Zny, Znz, Zoa, Zob, Zoc, Zod, Zoe, List.getElem?_cons_zero, List.getElem?_cons_succ, Zof, Zog, Zoh, Zoi, Zoj, Zok, Zol, Zom, Zon, Zoo, Zop, Zoq, Zor, Zos, Zot, Zou, Zov, Zow, Zox, Zoy, setX, Zoz, Zpa, Zpb, Int.ofNat_lt, Int.ofNat_le, Zpc, Zpd, Zpe, Zpf, Zpg, Zph, Zop, e]
theorem q_local {w : List Nat} (hw : Wd w) {c : Nat} (h0 : 0 < w.length) (hc : c ≤ w.length) : φ_local_at [.val (.str w), .val (.int c)] = .ok (.d (.int (lp w c))) [] := by
  apply run_local_at
  unfold g_local_at
  obtain ⟨g1, g2, g3, g4⟩ := lp_spec (c := c) h0
  simp -implicitDefEqProofs -dsimp only [↓Zaa, ↓Zab, ↓Zac, ↓Zad, ↓Zae, ↓Zaf, ↓Zag, ↓Zah, ↓Zai, ↓Zaj, ↓Zak, ↓Zal, ↓Zam, ↓Zan, ↓Zao, ↓Zap, ↓Zaq, ↓Zar, ↓Zas, ↓Zat, ↓Zau, ↓Zav, ↓Zaw, ↓Zax, ↓Zay, ↓Zaz, ↓Zba, ↓Zbb, ↓Zbc, ↓Zbd, ↓Zbe, ↓Zbf, ↓Zbg, ↓Zbh, ↓Zbi, ↓Zbj, ↓Zbk, ↓Zbl, ↓Zbm, ↓Zbn, ↓Zbo, ↓Zbp, ↓Zbq, ↓Zbr, ↓Zbs, ↓Zbt, ↓Zbu, ↓Zbv, ↓Zbw, ↓Zbx, ↓Zby, ↓Zbz, ↓Zca, ↓Zcb, ↓Zcc, ↓Zcd, ↓Zce, ↓Zcf, ↓Zcg, ↓Zch, ↓Zci, ↓Zcj, ↓Zck, ↓Zcl, ↓Zcm, ↓Zcn, ↓Zco, ↓Zcp, ↓Zcq, ↓Zcr, ↓Zcs, ↓Zct, ↓Zcu, ↓Zcv, ↓Zcw, ↓Zcx, ↓Zcy, ↓Zcz, ↓Zda, ↓Zdb, ↓Zdc, ↓Zdd, ↓Zde, ↓Zdf, ↓Zdg, ↓Zdh, ↓Zdi, ↓Zdj, ↓Zdk, ↓Zdl, ↓Zdm, ↓Zdn, ↓Zdo, ↓Zdp, ↓Zdq, ↓Zdr, ↓Zds, ↓Zdt, ↓Zdu, ↓Zdv, ↓Zdw, ↓Zdx, ↓Zdy, ↓Zdz, ↓Zea, ↓Zeb, ↓Zec, ↓Zed, ↓Zee, ↓Zef, ↓Zeg, ↓Zeh, ↓Zei, ↓Zej, ↓Zek, ↓Zel, ↓Zem, ↓Zen, ↓Zeo, ↓Zep, ↓Zeq, ↓Zer, ↓Zes, ↓Zet, ↓Zeu, ↓Zev, ↓Zew, ↓Zex, ↓Zey, ↓Zez, ↓Zfa, ↓Zfb, ↓Zfc, ↓Zfd, ↓Zfe, ↓Zff, ↓Zfg, ↓Zfh, ↓Zfi, ↓Zfj, ↓Zfk, ↓Zfl, ↓Zfm, ↓Zfn, ↓Zfo, ↓Zfp, ↓Zfq, ↓Zfr, ↓Zfs, ↓Zft, ↓Zfu, ↓Zfv, ↓Zfw, ↓Zfx, ↓Zfy, ↓Zfz, ↓Zga, ↓Zgb, ↓Zgc, ↓Zgd, ↓Zge, ↓Zgf, ↓Zgg, ↓Zgh, ↓Zgi, ↓Zgj, ↓Zgk, ↓Zgl, ↓Zgm, ↓Zgn, ↓Zgo, ↓Zgp, ↓Zgq, ↓Zgr, ↓Zgs, ↓Zgt, ↓Zgu, ↓Zgv, ↓Zgw, ↓Zgx, ↓Zgy, ↓Zgz, ↓Zha, ↓Zhb, ↓Zhc, ↓Zhd, ↓Zhe, ↓Zhf, ↓Zhg, ↓Zhh, ↓Zhi, ↓Zhj, ↓Zhk, ↓Zhl, ↓Zhm, ↓Zhn, ↓Zho, ↓Zhp, ↓Zhq, ↓Zhr, ↓Zhs, ↓Zht, ↓Zhu, ↓Zhv, ↓Zhw, ↓Zhx, ↓Zhy, ↓Zhz, ↓Zia, ↓Zib, ↓Zic, ↓Zid, ↓Zie, ↓Zif, ↓Zig, ↓Zih, ↓Zii, ↓Zij, ↓Zik, ↓Zil, ↓Zim, ↓Zin, ↓Zio, ↓Ziq, ↓Zir, ↓Zis, ↓Zit, ↓Ziu, ↓Ziv, ↓Ziw, ↓Zix, ↓Ziy, ↓Ziz, ↓Zja, ↓Zjb, ↓Zjc, ↓Zjd, ↓Zje, ↓Zjf, ↓Zjg, ↓Zjh, ↓Zji, ↓Zjj, ↓Zjk, ↓Zjl, ↓Zjm, ↓Zjn, ↓Zjo, ↓Zjp, ↓Zjq, ↓Zjr, ↓Zjs, ↓Zjt, ↓Zju, ↓Zjv, ↓Zjw, ↓Zjx, ↓Zjy, ↓Zjz, ↓Zka, ↓Zkb, ↓Zkc, ↓Zkd, ↓Zke, ↓Zkf, ↓Zkg, ↓Zkh, ↓Zki, ↓Zkj, ↓Zkk, ↓Zkl, ↓Zkm, ↓Zkn, ↓Zko, ↓Zkp, ↓Zkq, ↓Zkr, ↓Zks, ↓Zkt, ↓Zku, ↓Zkv, ↓Zkw, ↓Zkx, ↓Zky, ↓Zkz, reduceIte, if_true, if_false, Bool.false_eq_true, Bool.and_true, Bool.true_and, Bool.and_false, Bool.false_and, Bool.or_true, Bool.true_or, Bool.or_false, Bool.false_or, Int.cast_ofNat_Int, Zla, Zlb, beq_self_eq_true, Int.reduceBEq, Int.reduceLT, Int.reduceLE, Int.reduceEq, Int.reduceNeg, Nat.reduceLT, Zlc, Zld, Zle, Zlf, Zlg, Zlh, Zli, Zlj, Zlk, Zll, Zlm, Zln, Zlo, Zlp, Zlq, Zlr, Zls, Zlt, Zlu, Zlv, Zlw, Zlx, Zly, Zlz, Zma, Zmb, Zmc, Zmd, Zme, Zmf, Zmg, Zmh, Zmi, Zmj, Zmk, Zml, Zmm, Zmn, Zmo, Zmp, Zmq, Zmr, Zms, Zmt, Zmu, Zmv, Zmw, Zmx, Zmy, Zmz, Zna, Znb, Znc, Znd, Zne, Znf, Zng, Znh, Zni, Znj, Znk, Znl, Znm, Znn, Zno, List.lookup_nil, Znp, Znq, Option.map_some, Option.map_none, Option.bind_some, Option.bind_none, List.map_nil, List.map_cons, List.nil_append, List.cons_append, List.append_nil, List.length_cons, List.length_nil, Nat.reduceAdd, Nat.reduceLeDiff, Nat.reduceEqDiff, Nat.reduceBEq, decide_true, decide_false, Bool.not_true, Bool.not_false, Znr, Zns, Znt, Znu, Znv, Znw, Znx, Zny, Znz, Zoa, Zob, Zoc, Zod, Zoe, List.getElem?_cons_zero, List.getElem?_cons_succ, Zof, Zog, Zoh, Zoi, Zoj, Zok, Zol, Zom, Zon, Zoo, Zop, Zoq, Zor, Zos, Zot, Zou, Zov, Zow, Zox, Zoy, setX, Zoz, Zpa, Zpb, Int.ofNat_lt, Int.ofNat_le, Zpc, Zpd, Zpe, Zpf, Zpg, Zph]
  refine wh_inv (fun e => ∃ p : Nat, e = [.val (.str w), .val (.int c), .val (.int p)] ∧ 1 ≤ p ∧ p ≤ lp w c) (fun e => match e with | [_, _, .val (.int p)] => w.length - p.toNat | _ => 0) ?_ ?_ ?_
  · exact ⟨1, rfl, by omega, by omega⟩
  · show w.length - (1 : Int).toNat < fuelE _
    unfold fuelE sizV sizD
    simp
    omega
  · rintro e ⟨p, rfl, h1, h2⟩
    have q := q_rep hw hc (show p ≤ w.length by omega)
    by_cases h : Loc w c p
    · have e1 : p = lp w c := by
        apply Classical.byContradiction
        intro hne
        exact g4 p h1 (by omega) h
      rw [decide_eq_true h] at q
      simp -implicitDefEqProofs -dsimp only [↓Zaa, ↓Zab, ↓Zac, ↓Zad, ↓Zae, ↓Zaf, ↓Zag, ↓Zah, ↓Zai, ↓Zaj, ↓Zak, ↓Zal, ↓Zam, ↓Zan, ↓Zao, ↓Zap, ↓Zaq, ↓Zar, ↓Zas, ↓Zat, ↓Zau, ↓Zav, ↓Zaw, ↓Zax, ↓Zay, ↓Zaz, ↓Zba, ↓Zbb, ↓Zbc, ↓Zbd, ↓Zbe, ↓Zbf, ↓Zbg, ↓Zbh, ↓Zbi, ↓Zbj, ↓Zbk, ↓Zbl, ↓Zbm, ↓Zbn, ↓Zbo, ↓Zbp, ↓Zbq, ↓Zbr, ↓Zbs, ↓Zbt, ↓Zbu, ↓Zbv, ↓Zbw, ↓Zbx, ↓Zby, ↓Zbz, ↓Zca, ↓Zcb, ↓Zcc, ↓Zcd, ↓Zce, ↓Zcf, ↓Zcg, ↓Zch, ↓Zci, ↓Zcj, ↓Zck, ↓Zcl, ↓Zcm, ↓Zcn, ↓Zco, ↓Zcp, ↓Zcq, ↓Zcr, ↓Zcs, ↓Zct, ↓Zcu, ↓Zcv, ↓Zcw, ↓Zcx, ↓Zcy, ↓Zcz, ↓Zda, ↓Zdb, ↓Zdc, ↓Zdd, ↓Zde, ↓Zdf, ↓Zdg, ↓Zdh, ↓Zdi, ↓Zdj, ↓Zdk, ↓Zdl, ↓Zdm, ↓Zdn, ↓Zdo, ↓Zdp, ↓Zdq, ↓Zdr, ↓Zds, ↓Zdt, ↓Zdu, ↓Zdv, ↓Zdw, ↓Zdx, ↓Zdy, ↓Zdz, ↓Zea, ↓Zeb, ↓Zec, ↓Zed, ↓Zee, ↓Zef, ↓Zeg, ↓Zeh, ↓Zei, ↓Zej, ↓Zek, ↓Zel, ↓Zem, ↓Zen, ↓Zeo, ↓Zep, ↓Zeq, ↓Zer, ↓Zes, ↓Zet, ↓Zeu, ↓Zev, ↓Zew, ↓Zex, ↓Zey, ↓Zez, ↓Zfa, ↓Zfb, ↓Zfc, ↓Zfd, ↓Zfe, ↓Zff, ↓Zfg, ↓Zfh, ↓Zfi, ↓Zfj, ↓Zfk, ↓Zfl, ↓Zfm, ↓Zfn, ↓Zfo, ↓Zfp, ↓Zfq, ↓Zfr, ↓Zfs, ↓Zft, ↓Zfu, ↓Zfv, ↓Zfw, ↓Zfx, ↓Zfy, ↓Zfz, ↓Zga, ↓Zgb, ↓Zgc, ↓Zgd, ↓Zge, ↓Zgf, ↓Zgg, ↓Zgh, ↓Zgi, ↓Zgj, ↓Zgk, ↓Zgl, ↓Zgm, ↓Zgn, ↓Zgo, ↓Zgp, ↓Zgq, ↓Zgr, ↓Zgs, ↓Zgt, ↓Zgu, ↓Zgv, ↓Zgw, ↓Zgx, ↓Zgy, ↓Zgz, ↓Zha, ↓Zhb, ↓Zhc, ↓Zhd, ↓Zhe, ↓Zhf, ↓Zhg, ↓Zhh, ↓Zhi, ↓Zhj, ↓Zhk, ↓Zhl, ↓Zhm, ↓Zhn, ↓Zho, ↓Zhp, ↓Zhq, ↓Zhr, ↓Zhs, ↓Zht, ↓Zhu, ↓Zhv, ↓Zhw, ↓Zhx, ↓Zhy, ↓Zhz, ↓Zia, ↓Zib, ↓Zic, ↓Zid, ↓Zie, ↓Zif, ↓Zig, ↓Zih, ↓Zii, ↓Zij, ↓Zik, ↓Zil, ↓Zim, ↓Zin, ↓Zio, ↓Ziq, ↓Zir, ↓Zis, ↓Zit, ↓Ziu, ↓Ziv, ↓Ziw, ↓Zix, ↓Ziy, ↓Ziz, ↓Zja, ↓Zjb, ↓Zjc, ↓Zjd, ↓Zje, ↓Zjf, ↓Zjg, ↓Zjh, ↓Zji, ↓Zjj, ↓Zjk, ↓Zjl, ↓Zjm, ↓Zjn, ↓Zjo, ↓Zjp, ↓Zjq, ↓Zjr, ↓Zjs, ↓Zjt, ↓Zju, ↓Zjv, ↓Zjw, ↓Zjx, ↓Zjy, ↓Zjz, ↓Zka, ↓Zkb, ↓Zkc, ↓Zkd, ↓Zke, ↓Zkf, ↓Zkg, ↓Zkh, ↓Zki, ↓Zkj, ↓Zkk, ↓Zkl, ↓Zkm, ↓Zkn, ↓Zko, ↓Zkp, ↓Zkq, ↓Zkr, ↓Zks, ↓Zkt, ↓Zku, ↓Zkv, ↓Zkw, ↓Zkx, ↓Zky, ↓Zkz, reduceIte, if_true, if_false, Bool.false_eq_true, Bool.and_true, Bool.true_and, Bool.and_false, Bool.false_and, Bool.or_true, Bool.true_or, Bool.or_false, Bool.false_or, Int.cast_ofNat_Int, Zla, Zlb, beq_self_eq_true, Int.reduceBEq, Int.reduceLT, Int.reduceLE, Int.reduceEq, Int.reduceNeg, Nat.reduceLT, Zlc, Zld, Zle, Zlf, Zlg, Zlh, Zli, Zlj, Zlk, Zll, Zlm, Zln, Zlo, Zlp, Zlq, Zlr, Zls, Zlt, Zlu, Zlv, Zlw, Zlx, Zly, Zlz, Zma, Zmb, Zmc, Zmd, Zme, Zmf, Zmg, Zmh, Zmi, Zmj, Zmk, Zml, Zmm, Zmn, Zmo, Zmp, Zmq, Zmr, Zms, Zmt, Zmu, Zmv, Zmw, Zmx, Zmy, Zmz, Zna, Znb, Znc, Znd, Zne, Znf, Zng, Znh, Zni, Znj, Znk, Znl, Znm, Znn, Zno, List.lookup_nil, Znp, Znq, Option.map_some, Option.map_none, Option.bind_some, Option.bind_none, List.map_nil, List.map_cons, List.nil_append, List.cons_append, List.append_nil, List.length_cons, List.length_nil, Nat.reduceAdd, Nat.reduceLeDiff, Nat.reduceEqDiff, Nat.reduceBEq, decide_true, decide_false, Bool.not_true, Bool.not_false, Znr, Zns, Znt, Znu, Znv, Znw, Znx, Zny, Znz, Zoa, Zob, Zoc, Zod, Zoe, List.getElem?_cons_zero, List.getElem?_cons_succ, Zof, Zog, Zoh, Zoi, Zoj, Zok, Zol, Zom, Zon, Zoo, Zop, Zoq, Zor, Zos, Zot, Zou, Zov, Zow, Zox, Zoy, setX, Zoz, Zpa, Zpb, Int.ofNat_lt, Int.ofNat_le, Zpc, Zpd, Zpe, Zpf, Zpg, Zph, q]
      rw [e1]
    · rw [decide_eq_false h] at q
      have hne : p ≠ lp w c := fun e => h (e ▸ g1)
      simp -implicitDefEqProofs -dsimp only [↓Zaa, ↓Zab, ↓Zac, ↓Zad, ↓Zae, ↓Zaf, ↓Zag, ↓Zah, ↓Zai, ↓Zaj, ↓Zak, ↓Zal, ↓Zam, ↓Zan, ↓Zao, ↓Zap, ↓Zaq, ↓Zar, ↓Zas, ↓Zat, ↓Zau, ↓Zav, ↓Zaw, ↓Zax, ↓Zay, ↓Zaz, ↓Zba, ↓Zbb, ↓Zbc, ↓Zbd, ↓Zbe, ↓Zbf, ↓Zbg, ↓Zbh, ↓Zbi, ↓Zbj, ↓Zbk, ↓Zbl, ↓Zbm, ↓Zbn, ↓Zbo, ↓Zbp, ↓Zbq, ↓Zbr, ↓Zbs, ↓Zbt, ↓Zbu, ↓Zbv, ↓Zbw, ↓Zbx, ↓Zby, ↓Zbz, ↓Zca, ↓Zcb, ↓Zcc, ↓Zcd, ↓Zce, ↓Zcf, ↓Zcg, ↓Zch, ↓Zci, ↓Zcj, ↓Zck, ↓Zcl, ↓Zcm, ↓Zcn, ↓Zco, ↓Zcp, ↓Zcq, ↓Zcr, ↓Zcs, ↓Zct, ↓Zcu, ↓Zcv, ↓Zcw, ↓Zcx, ↓Zcy, ↓Zcz, ↓Zda, ↓Zdb, ↓Zdc, ↓Zdd, ↓Zde, ↓Zdf, ↓Zdg, ↓Zdh, ↓Zdi, ↓Zdj, ↓Zdk, ↓Zdl, ↓Zdm, ↓Zdn, ↓Zdo, ↓Zdp, ↓Zdq, ↓Zdr, ↓Zds, ↓Zdt, ↓Zdu, ↓Zdv, ↓Zdw, ↓Zdx, ↓Zdy, ↓Zdz, ↓Zea, ↓Zeb, ↓Zec, ↓Zed, ↓Zee, ↓Zef, ↓Zeg, ↓Zeh, ↓Zei, ↓Zej, ↓Zek, ↓Zel, ↓Zem, ↓Zen, ↓Zeo, ↓Zep, ↓Zeq, ↓Zer, ↓Zes, ↓Zet, ↓Zeu, ↓Zev, ↓Zew, ↓Zex, ↓Zey, ↓Zez, ↓Zfa, ↓Zfb, ↓Zfc, ↓Zfd, ↓Zfe, ↓Zff, ↓Zfg, ↓Zfh, ↓Zfi, ↓Zfj, ↓Zfk, ↓Zfl, ↓Zfm, ↓Zfn, ↓Zfo, ↓Zfp, ↓Zfq, ↓Zfr, ↓Zfs, ↓Zft, ↓Zfu, ↓Zfv, ↓Zfw, ↓Zfx, ↓Zfy, ↓Zfz, ↓Zga, ↓Zgb, ↓Zgc, ↓Zgd, ↓Zge, ↓Zgf, ↓Zgg, ↓Zgh, ↓Zgi, ↓Zgj, ↓Zgk, ↓Zgl, ↓Zgm, ↓Zgn, ↓Zgo, ↓Zgp, ↓Zgq, ↓Zgr, ↓Zgs, ↓Zgt, ↓Zgu, ↓Zgv, ↓Zgw, ↓Zgx, ↓Zgy, ↓Zgz, ↓Zha, ↓Zhb, ↓Zhc, ↓Zhd, ↓Zhe, ↓Zhf, ↓Zhg, ↓Zhh, ↓Zhi, ↓Zhj, ↓Zhk, ↓Zhl, ↓Zhm, ↓Zhn, ↓Zho, ↓Zhp, ↓Zhq, ↓Zhr, ↓Zhs, ↓Zht, ↓Zhu, ↓Zhv, ↓Zhw, ↓Zhx, ↓Zhy, ↓Zhz, ↓Zia, ↓Zib, ↓Zic, ↓Zid, ↓Zie, ↓Zif, ↓Zig, ↓Zih, ↓Zii, ↓Zij, ↓Zik, ↓Zil, ↓Zim, ↓Zin, ↓Zio, ↓Ziq, ↓Zir, ↓Zis, ↓Zit, ↓Ziu, ↓Ziv, ↓Ziw, ↓Zix, ↓Ziy, ↓Ziz, ↓Zja, ↓Zjb, ↓Zjc, ↓Zjd, ↓Zje, ↓Zjf, ↓Zjg, ↓Zjh, ↓Zji, ↓Zjj, ↓Zjk, ↓Zjl, ↓Zjm, ↓Zjn, ↓Zjo, ↓Zjp, ↓Zjq, ↓Zjr, ↓Zjs, ↓Zjt, ↓Zju, ↓Zjv, ↓Zjw, ↓Zjx, ↓Zjy, ↓Zjz, ↓Zka, ↓Zkb, ↓Zkc, ↓Zkd, ↓Zke, ↓Zkf, ↓Zkg, ↓Zkh, ↓Zki, ↓Zkj, ↓Zkk, ↓Zkl, ↓Zkm, ↓Zkn, ↓Zko, ↓Zkp, ↓Zkq, ↓Zkr, ↓Zks, ↓Zkt, ↓Zku, ↓Zkv, ↓Zkw, ↓Zkx, ↓Zky, ↓Zkz, reduceIte, if_true, if_false, Bool.false_eq_true, Bool.and_true, Bool.true_and, Bool.and_false, Bool.false_and, Bool.or_true, Bool.true_or, Bool.or_false, Bool.false_or, Int.cast_ofNat_Int, Zla, Zlb, beq_self_eq_true, Int.reduceBEq, Int.reduceLT, Int.reduceLE, Int.reduceEq, Int.reduceNeg, Nat.reduceLT, Zlc, Zld, Zle, Zlf, Zlg, Zlh, Zli, Zlj, Zlk, Zll, Zlm, Zln, Zlo, Zlp, Zlq, Zlr, Zls, Zlt, Zlu, Zlv, Zlw, Zlx, Zly, Zlz, Zma, Zmb, Zmc, Zmd, Zme, Zmf, Zmg, Zmh, Zmi, Zmj, Zmk, Zml, Zmm, Zmn, Zmo, Zmp, Zmq, Zmr, Zms, Zmt, Zmu, Zmv, Zmw, Zmx, Zmy, Zmz, Zna, Znb, Znc, Znd, Zne, Znf, Zng, Znh, Zni, Znj, Znk, Znl, Znm, Znn, Zno, List.lookup_nil, Znp, Znq, Option.map_some, Option.map_none, Option.bind_some, Option.bind_none, List.map_nil, List.map_cons, List.nil_append, List.cons_append, List.append_nil, List.length_cons, List.length_nil, Nat.reduceAdd, Nat.reduceLeDiff, Nat.reduceEqDiff, Nat.reduceBEq, decide_true, decide_false, Bool.not_true, Bool.not_false, Znr, Zns, Znt, Znu, Znv, Znw, Znx, Zny, Znz, Zoa, Zob, Zoc, Zod, Zoe, List.getElem?_cons_zero, List.getElem?_cons_succ, Zof, Zog, Zoh, Zoi, Zoj, Zok, Zol, Zom, Zon, Zoo, Zop, Zoq, Zor, Zos, Zot, Zou, Zov, Zow, Zox, Zoy, setX, Zoz, Zpa, Zpb, Int.ofNat_lt, Int.ofNat_le, Zpc, Zpd, Zpe, Zpf, Zpg, Zph, q]
      refine ⟨⟨p + 1, ?_, by omega, by omega⟩, ?_⟩
      · rw [show ((p : Nat) : Int) + 1 = ((p + 1 : Nat) : Int) by omega]
      · show w.length - ((p : Int) + 1).toNat < w.length - (p : Int).toNat
        omega
end L2.S.W

set_option Elab.async false
set_option linter.all false
set_option maxRecDepth 100000
set_option maxHeartbeats 8000000
namespace L2.S.W
open PySem PySem.Spec PyProof.Rows L2 L2.S
theorem ints_plain {k : Nat} {l : List Nat} {f : Nat → Int} : plains (k + 1) (l.map fun i => D.int (f i)) = true := plains_of fun z hz => by
  obtain ⟨i, _, rfl⟩ := List.mem_map.mp hz
  rfl
theorem ints_self : ∀ {l : List Nat} {f : Nat → Int}, eqDs (l.map fun i => D.int (f i)) (l.map fun i => D.int (f i)) = true ∧ noMixs (l.map fun i => D.int (f i)) (l.map fun i => D.int (f i)) = true
  | [], _ => ⟨rfl, rfl⟩
  | a :: l, f => by
    obtain ⟨h1, h2⟩ := ints_self (l := l) (f := f)
    constructor
    · rw [List.map_cons]
      unfold eqDs
      rw [h1, Bool.and_true]
      show (f a == f a) = true
      simp
    · rw [List.map_cons]
      unfold noMixs
      rw [h2, Bool.and_true]
      rfl
theorem ne_ints {l : List Nat} {f : Nat → Int} : pEq true (.lst (l.map fun i => D.int (f i))) (.lst (l.map fun i => D.int (f i))) = some (.d (.bl false)) := by
  have p : plain 60 (.lst (l.map fun i => D.int (f i))) = true := ints_plain
  rw [eq_P rfl p p ints_self.2]
  have e : eqD (.lst (l.map fun i => D.int (f i))) (.lst (l.map fun i => D.int (f i))) = true := ints_self.1
  rw [e]
  rfl
theorem q_llocal {w : List Nat} (hw : Wd w) {c : Nat} (h0 : 0 < w.length) (hc : c ≤ w.length) : φ_law_local [.val (.str w), .val (.int c)] = .ok (.d (.int (lp w c))) [] := by
  apply run_law_local
  unfold g_law_local
  obtain ⟨g1, g2, g3, g4⟩ := lp_spec (c := c) h0
  have hl := hw.len
  have hl2 : w.length ≤ 16777216 := by omega
  simp -implicitDefEqProofs -dsimp only [↓Zaa, ↓Zab, ↓Zac, ↓Zad, ↓Zae, ↓Zaf, ↓Zag, ↓Zah, ↓Zai, ↓Zaj, ↓Zak, ↓Zal, ↓Zam, ↓Zan, ↓Zao, ↓Zap, ↓Zaq, ↓Zar, ↓Zas, ↓Zat, ↓Zau, ↓Zav, ↓Zaw, ↓Zax, ↓Zay, ↓Zaz, ↓Zba, ↓Zbb, ↓Zbc, ↓Zbd, ↓Zbe, ↓Zbf, ↓Zbg, ↓Zbh, ↓Zbi, ↓Zbj, ↓Zbk, ↓Zbl, ↓Zbm, ↓Zbn, ↓Zbo, ↓Zbp, ↓Zbq, ↓Zbr, ↓Zbs, ↓Zbt, ↓Zbu, ↓Zbv, ↓Zbw, ↓Zbx, ↓Zby, ↓Zbz, ↓Zca, ↓Zcb, ↓Zcc, ↓Zcd, ↓Zce, ↓Zcf, ↓Zcg, ↓Zch, ↓Zci, ↓Zcj, ↓Zck, ↓Zcl, ↓Zcm, ↓Zcn, ↓Zco, ↓Zcp, ↓Zcq, ↓Zcr, ↓Zcs, ↓Zct, ↓Zcu, ↓Zcv, ↓Zcw, ↓Zcx, ↓Zcy, ↓Zcz, ↓Zda, ↓Zdb, ↓Zdc, ↓Zdd, ↓Zde, ↓Zdf, ↓Zdg, ↓Zdh, ↓Zdi, ↓Zdj, ↓Zdk, ↓Zdl, ↓Zdm, ↓Zdn, ↓Zdo, ↓Zdp, ↓Zdq, ↓Zdr, ↓Zds, ↓Zdt, ↓Zdu, ↓Zdv, ↓Zdw, ↓Zdx, ↓Zdy, ↓Zdz, ↓Zea, ↓Zeb, ↓Zec, ↓Zed, ↓Zee, ↓Zef, ↓Zeg, ↓Zeh, ↓Zei, ↓Zej, ↓Zek, ↓Zel, ↓Zem, ↓Zen, ↓Zeo, ↓Zep, ↓Zeq, ↓Zer, ↓Zes, ↓Zet, ↓Zeu, ↓Zev, ↓Zew, ↓Zex, ↓Zey, ↓Zez, ↓Zfa, ↓Zfb, ↓Zfc, ↓Zfd, ↓Zfe, ↓Zff, ↓Zfg, ↓Zfh, ↓Zfi, ↓Zfj, ↓Zfk, ↓Zfl, ↓Zfm, ↓Zfn, ↓Zfo, ↓Zfp, ↓Zfq, ↓Zfr, ↓Zfs, ↓Zft, ↓Zfu, ↓Zfv, ↓Zfw, ↓Zfx, ↓Zfy, ↓Zfz, ↓Zga, ↓Zgb, ↓Zgc, ↓Zgd, ↓Zge, ↓Zgf, ↓Zgg, ↓Zgh, ↓Zgi, ↓Zgj, ↓Zgk, ↓Zgl, ↓Zgm, ↓Zgn, ↓Zgo, ↓Zgp, ↓Zgq, ↓Zgr, ↓Zgs, ↓Zgt, ↓Zgu, ↓Zgv, ↓Zgw, ↓Zgx, ↓Zgy, ↓Zgz, ↓Zha, ↓Zhb, ↓Zhc, ↓Zhd, ↓Zhe, ↓Zhf, ↓Zhg, ↓Zhh, ↓Zhi, ↓Zhj, ↓Zhk, ↓Zhl, ↓Zhm, ↓Zhn, ↓Zho, ↓Zhp, ↓Zhq, ↓Zhr, ↓Zhs, ↓Zht, ↓Zhu, ↓Zhv, ↓Zhw, ↓Zhx, ↓Zhy, ↓Zhz, ↓Zia, ↓Zib, ↓Zic, ↓Zid, ↓Zie, ↓Zif, ↓Zig, ↓Zih, ↓Zii, ↓Zij, ↓Zik, ↓Zil, ↓Zim, ↓Zin, ↓Zio, ↓Ziq, ↓Zir, ↓Zis, ↓Zit, ↓Ziu, ↓Ziv, ↓Ziw, ↓Zix, ↓Ziy, ↓Ziz, ↓Zja, ↓Zjb, ↓Zjc, ↓Zjd, ↓Zje, ↓Zjf, ↓Zjg, ↓Zjh, ↓Zji, ↓Zjj, ↓Zjk, ↓Zjl, ↓Zjm, ↓Zjn, ↓Zjo, ↓Zjp, ↓Zjq, ↓Zjr, ↓Zjs, ↓Zjt, ↓Zju, ↓Zjv, ↓Zjw, ↓Zjx, ↓Zjy, ↓Zjz, ↓Zka, ↓Zkb, ↓Zkc, ↓Zkd, ↓Zke, ↓Zkf, ↓Zkg, ↓Zkh, ↓Zki, ↓Zkj, ↓Zkk, ↓Zkl, ↓Zkm, ↓Zkn, ↓Zko, ↓Zkp, ↓Zkq, ↓Zkr, ↓Zks, ↓Zkt, ↓Zku, ↓Zkv, ↓Zkw, ↓Zkx, ↓Zky, ↓Zkz, reduceIte, if_true, if_false, Bool.false_eq_true, Bool.and_true, Bool.true_and, Bool.and_false, Bool.false_and, Bool.or_true, Bool.true_or, Bool.or_false, Bool.false_or, Int.cast_ofNat_Int, Zla, Zlb, beq_self_eq_true, Int.reduceBEq, Int.reduceLT, Int.reduceLE, Int.reduceEq, Int.reduceNeg, Nat.reduceLT, Zlc, Zld, Zle, Zlf, Zlg, Zlh, Zli, Zlj, Zlk, Zll, Zlm, Zln, Zlo, Zlp, Zlq, Zlr, Zls, Zlt, Zlu, Zlv, Zlw, Zlx, Zly, Zlz, Zma, Zmb, Zmc, Zmd, Zme, Zmf, Zmg, Zmh, Zmi, Zmj, Zmk, Zml, Zmm, Zmn, Zmo, Zmp, Zmq, Zmr, Zms, Zmt, Zmu, Zmv, Zmw, Zmx, Zmy, Zmz, Zna, Znb, Znc, Znd, Zne, Znf, Zng, Znh, Zni, Znj, Znk, Znl, Znm, Znn, Zno, List.lookup_nil, Znp, Znq, Option.map_some, Option.map_none, Option.bind_some, Option.bind_none, List.map_nil, List.map_cons, List.nil_append, List.cons_append, List.append_nil, List.length_cons, List.length_nil, Nat.reduceAdd, Nat.reduceLeDiff, Nat.reduceEqDiff, Nat.reduceBEq, decide_true, decide_false, Bool.not_true, Bool.not_false, Znr, Zns, Znt, Znu, Znv, Znw, Znx, Zny, Znz, Zoa, Zob, Zoc, Zod, Zoe, List.getElem?_cons_zero, List.getElem?_cons_succ, Zof, Zog, Zoh, Zoi, Zoj, Zok, Zol, Zom, Zon, Zoo, Zop, Zoq, Zor, Zos, Zot, Zou, Zov, Zow, Zox, Zoy, setX, Zoz, Zpa, Zpb, Int.ofNat_lt, Int.ofNat_le, Zpc, Zpd, Zpe, Zpf, Zpg, Zph]
  refine wh_inv (fun e => ∃ p : Nat, e = [.val (.str w), .val (.int c), .val (.int p), .un] ∧ 1 ≤ p ∧ p ≤ lp w c) (fun e => match e with | [_, _, .val (.int p), _] => w.length - p.toNat | _ => 0) ?_ ?_ ?_
  · exact ⟨1, rfl, by omega, by omega⟩
  · show w.length - (1 : Int).toNat < fuelE _
    unfold fuelE sizV sizD
    simp
    omega
  · rintro e ⟨p, rfl, h1, h2⟩
    have ed : (w.length : Int) - (p : Int) = ((w.length - p : Nat) : Int) := by omega
    have s3 : smI ((w.length : Int) - (p : Int)) = true := by rw [ed]; exact smI_ok (by omega)
    simp -implicitDefEqProofs -dsimp only [↓Zaa, ↓Zab, ↓Zac, ↓Zad, ↓Zae, ↓Zaf, ↓Zag, ↓Zah, ↓Zai, ↓Zaj, ↓Zak, ↓Zal, ↓Zam, ↓Zan, ↓Zao, ↓Zap, ↓Zaq, ↓Zar, ↓Zas, ↓Zat, ↓Zau, ↓Zav, ↓Zaw, ↓Zax, ↓Zay, ↓Zaz, ↓Zba, ↓Zbb, ↓Zbc, ↓Zbd, ↓Zbe, ↓Zbf, ↓Zbg, ↓Zbh, ↓Zbi, ↓Zbj, ↓Zbk, ↓Zbl, ↓Zbm, ↓Zbn, ↓Zbo, ↓Zbp, ↓Zbq, ↓Zbr, ↓Zbs, ↓Zbt, ↓Zbu, ↓Zbv, ↓Zbw, ↓Zbx, ↓Zby, ↓Zbz, ↓Zca, ↓Zcb, ↓Zcc, ↓Zcd, ↓Zce, ↓Zcf, ↓Zcg, ↓Zch, ↓Zci, ↓Zcj, ↓Zck, ↓Zcl, ↓Zcm, ↓Zcn, ↓Zco, ↓Zcp, ↓Zcq, ↓Zcr, ↓Zcs, ↓Zct, ↓Zcu, ↓Zcv, ↓Zcw, ↓Zcx, ↓Zcy, ↓Zcz, ↓Zda, ↓Zdb, ↓Zdc, ↓Zdd, ↓Zde, ↓Zdf, ↓Zdg, ↓Zdh, ↓Zdi, ↓Zdj, ↓Zdk, ↓Zdl, ↓Zdm, ↓Zdn, ↓Zdo, ↓Zdp, ↓Zdq, ↓Zdr, ↓Zds, ↓Zdt, ↓Zdu, ↓Zdv, ↓Zdw, ↓Zdx, ↓Zdy, ↓Zdz, ↓Zea, ↓Zeb, ↓Zec, ↓Zed, ↓Zee, ↓Zef, ↓Zeg, ↓Zeh, ↓Zei, ↓Zej, ↓Zek, ↓Zel, ↓Zem, ↓Zen, ↓Zeo, ↓Zep, ↓Zeq, ↓Zer, ↓Zes, ↓Zet, ↓Zeu, ↓Zev, ↓Zew, ↓Zex, ↓Zey, ↓Zez, ↓Zfa, ↓Zfb, ↓Zfc, ↓Zfd, ↓Zfe, ↓Zff, ↓Zfg, ↓Zfh, ↓Zfi, ↓Zfj, ↓Zfk, ↓Zfl, ↓Zfm, ↓Zfn, ↓Zfo, ↓Zfp, ↓Zfq, ↓Zfr, ↓Zfs, ↓Zft, ↓Zfu, ↓Zfv, ↓Zfw, ↓Zfx, ↓Zfy, ↓Zfz, ↓Zga, ↓Zgb, ↓Zgc, ↓Zgd, ↓Zge, ↓Zgf, ↓Zgg, ↓Zgh, ↓Zgi, ↓Zgj, ↓Zgk, ↓Zgl, ↓Zgm, ↓Zgn, ↓Zgo, ↓Zgp, ↓Zgq, ↓Zgr, ↓Zgs, ↓Zgt, ↓Zgu, ↓Zgv, ↓Zgw, ↓Zgx, ↓Zgy, ↓Zgz, ↓Zha, ↓Zhb, ↓Zhc, ↓Zhd, ↓Zhe, ↓Zhf, ↓Zhg, ↓Zhh, ↓Zhi, ↓Zhj, ↓Zhk, ↓Zhl, ↓Zhm, ↓Zhn, ↓Zho, ↓Zhp, ↓Zhq, ↓Zhr, ↓Zhs, ↓Zht, ↓Zhu, ↓Zhv, ↓Zhw, ↓Zhx, ↓Zhy, ↓Zhz, ↓Zia, ↓Zib, ↓Zic, ↓Zid, ↓Zie, ↓Zif, ↓Zig, ↓Zih, ↓Zii, ↓Zij, ↓Zik, ↓Zil, ↓Zim, ↓Zin, ↓Zio, ↓Ziq, ↓Zir, ↓Zis, ↓Zit, ↓Ziu, ↓Ziv, ↓Ziw, ↓Zix, ↓Ziy, ↓Ziz, ↓Zja, ↓Zjb, ↓Zjc, ↓Zjd, ↓Zje, ↓Zjf, ↓Zjg, ↓Zjh, ↓Zji, ↓Zjj, ↓Zjk, ↓Zjl, ↓Zjm, ↓Zjn, ↓Zjo, ↓Zjp, ↓Zjq, ↓Zjr, ↓Zjs, ↓Zjt, ↓Zju, ↓Zjv, ↓Zjw, ↓Zjx, ↓Zjy, ↓Zjz, ↓Zka, ↓Zkb, ↓Zkc, ↓Zkd, ↓Zke, ↓Zkf, ↓Zkg, ↓Zkh, ↓Zki, ↓Zkj, ↓Zkk, ↓Zkl, ↓Zkm, ↓Zkn, ↓Zko, ↓Zkp, ↓Zkq, ↓Zkr, ↓Zks, ↓Zkt, ↓Zku, ↓Zkv, ↓Zkw, ↓Zkx, ↓Zky, ↓Zkz, reduceIte, if_true, if_false, Bool.false_eq_true, Bool.and_true, Bool.true_and, Bool.and_false, Bool.false_and, Bool.or_true, Bool.true_or, Bool.or_false, Bool.false_or, Int.cast_ofNat_Int, Zla, Zlb, beq_self_eq_true, Int.reduceBEq, Int.reduceLT, Int.reduceLE, Int.reduceEq, Int.reduceNeg, Nat.reduceLT, Zlc, Zld, Zle, Zlf, Zlg, Zlh, Zli, Zlj, Zlk, Zll, Zlm, Zln, Zlo, Zlp, Zlq, Zlr, Zls, Zlt, Zlu, Zlv, Zlw, Zlx, Zly, Zlz, Zma, Zmb, Zmc, Zmd, Zme, Zmf, Zmg, Zmh, Zmi, Zmj, Zmk, Zml, Zmm, Zmn, Zmo, Zmp, Zmq, Zmr, Zms, Zmt, Zmu, Zmv, Zmw, Zmx, Zmy, Zmz, Zna, Znb, Znc, Znd, Zne, Znf, Zng, Znh, Zni, Znj, Znk, Znl, Znm, Znn, Zno, List.lookup_nil, Znp, Znq, Option.map_some, Option.map_none, Option.bind_some, Option.bind_none, List.map_nil, List.map_cons, List.nil_append, List.cons_append, List.append_nil, List.length_cons, List.length_nil, Nat.reduceAdd, Nat.reduceLeDiff, Nat.reduceEqDiff, Nat.reduceBEq, decide_true, decide_false, Bool.not_true, Bool.not_false, Znr, Zns, Znt, Znu, Znv, Znw, Znx, Zny, Znz, Zoa, Zob, Zoc, Zod, Zoe, List.getElem?_cons_zero, List.getElem?_cons_succ, Zof, Zog, Zoh, Zoi, Zoj, Zok, Zol, Zom, Zon, Zoo, Zop, Zoq, Zor, Zos, Zot, Zou, Zov, Zow, Zox, Zoy, setX, Zoz, Zpa, Zpb, Int.ofNat_lt, Int.ofNat_le, Zpc, Zpd, Zpe, Zpf, Zpg, Zph, bLen_s hl2, s3]
    have er := rngG (lo := 0) (hi := (w.length : Int) - (p : Int)) (a := 0) (k := w.length - p) rfl (by omega)
    rw [er]
    refine lc_filter (l := List.range (w.length - p)) (g := fun i => .int ((0 + i : Nat) : Int)) (fun i => decide (i < c) && decide (c ≤ i + p)) (fun i => .bl (decide (w[i]? = w[i + p]?))) rfl (by simp; omega) (fun i hi => ?_) ?_
    · have hi := List.mem_range.mp hi
      have k1 : 0 + i < w.length := by omega
      have k2 : i + p < w.length := by omega
      have ea : ((0 + i : Nat) : Int) + (p : Int) = ((i + p : Nat) : Int) := by omega
      have e : ([w[0 + i]] == [w[i + p]]) = decide (w[i]? = w[i + p]?) := by rw [ch_eq k1 k2, Nat.zero_add]
      simp only [wipeE, List.set_cons_zero, List.set_cons_succ]
      by_cases a1 : i < c
      · have b1 : decide (0 + i < c) = true := decide_eq_true (by omega)
        by_cases a2 : c ≤ i + p
        · have b2 : decide (c ≤ i + p) = true := decide_eq_true a2
          simp -implicitDefEqProofs -dsimp only [↓Zaa, ↓Zab, ↓Zac, ↓Zad, ↓Zae, ↓Zaf, ↓Zag, ↓Zah, ↓Zai, ↓Zaj, ↓Zak, ↓Zal, ↓Zam, ↓Zan, ↓Zao, ↓Zap, ↓Zaq, ↓Zar, ↓Zas, ↓Zat, ↓Zau, ↓Zav, ↓Zaw, ↓Zax, ↓Zay, ↓Zaz, ↓Zba, ↓Zbb, ↓Zbc, ↓Zbd, ↓Zbe, ↓Zbf, ↓Zbg, ↓Zbh, ↓Zbi, ↓Zbj, ↓Zbk, ↓Zbl, ↓Zbm, ↓Zbn, ↓Zbo, ↓Zbp, ↓Zbq, ↓Zbr, ↓Zbs, ↓Zbt, ↓Zbu, ↓Zbv, ↓Zbw, ↓Zbx, ↓Zby, ↓Zbz, ↓Zca, ↓Zcb, ↓Zcc, ↓Zcd, ↓Zce, ↓Zcf, ↓Zcg, ↓Zch, ↓Zci, ↓Zcj, ↓Zck, ↓Zcl, ↓Zcm, ↓Zcn, ↓Zco, ↓Zcp, ↓Zcq, ↓Zcr, ↓Zcs, ↓Zct, ↓Zcu, ↓Zcv, ↓Zcw, ↓Zcx, ↓Zcy, ↓Zcz, ↓Zda, ↓Zdb, ↓Zdc, ↓Zdd, ↓Zde, ↓Zdf, ↓Zdg, ↓Zdh, ↓Zdi, ↓Zdj, ↓Zdk, ↓Zdl, ↓Zdm, ↓Zdn, ↓Zdo, ↓Zdp, ↓Zdq, ↓Zdr, ↓Zds, ↓Zdt, ↓Zdu, ↓Zdv, ↓Zdw, ↓Zdx, ↓Zdy, ↓Zdz, ↓Zea, ↓Zeb, ↓Zec, ↓Zed, ↓Zee, ↓Zef, ↓Zeg, ↓Zeh, ↓Zei, ↓Zej, ↓Zek, ↓Zel, ↓Zem, ↓Zen, ↓Zeo, ↓Zep, ↓Zeq, ↓Zer, ↓Zes, ↓Zet, ↓Zeu, ↓Zev, ↓Zew, ↓Zex, ↓Zey, ↓Zez, ↓Zfa, ↓Zfb, ↓Zfc, ↓Zfd, ↓Zfe, ↓Zff, ↓Zfg, ↓Zfh, ↓Zfi, ↓Zfj, ↓Zfk, ↓Zfl, ↓Zfm, ↓Zfn, ↓Zfo, ↓Zfp, ↓Zfq, ↓Zfr, ↓Zfs, ↓Zft, ↓Zfu, ↓Zfv, ↓Zfw, ↓Zfx, ↓Zfy, ↓Zfz, ↓Zga, ↓Zgb, ↓Zgc, ↓Zgd, ↓Zge, ↓Zgf, ↓Zgg, ↓Zgh, ↓Zgi, ↓Zgj, ↓Zgk, ↓Zgl, ↓Zgm, ↓Zgn, ↓Zgo, ↓Zgp, ↓Zgq, ↓Zgr, ↓Zgs, ↓Zgt, ↓Zgu, ↓Zgv, ↓Zgw, ↓Zgx, ↓Zgy, ↓Zgz, ↓Zha, ↓Zhb, ↓Zhc, ↓Zhd, ↓Zhe, ↓Zhf, ↓Zhg, ↓Zhh, ↓Zhi, ↓Zhj, ↓Zhk, ↓Zhl, ↓Zhm, ↓Zhn, ↓Zho, ↓Zhp, ↓Zhq, ↓Zhr, ↓Zhs, ↓Zht, ↓Zhu, ↓Zhv, ↓Zhw, ↓Zhx, ↓Zhy, ↓Zhz, ↓Zia, ↓Zib, ↓Zic, ↓Zid, ↓Zie, ↓Zif, ↓Zig, ↓Zih, ↓Zii, ↓Zij, ↓Zik, ↓Zil, ↓Zim, ↓Zin, ↓Zio, ↓Ziq, ↓Zir, ↓Zis, ↓Zit, ↓Ziu, ↓Ziv, ↓Ziw, ↓Zix, ↓Ziy, ↓Ziz, ↓Zja, ↓Zjb, ↓Zjc, ↓Zjd, ↓Zje, ↓Zjf, ↓Zjg, ↓Zjh, ↓Zji, ↓Zjj, ↓Zjk, ↓Zjl, ↓Zjm, ↓Zjn, ↓Zjo, ↓Zjp, ↓Zjq, ↓Zjr, ↓Zjs, ↓Zjt, ↓Zju, ↓Zjv, ↓Zjw, ↓Zjx, ↓Zjy, ↓Zjz, ↓Zka, ↓Zkb, ↓Zkc, ↓Zkd, ↓Zke, ↓Zkf, ↓Zkg, ↓Zkh, ↓Zki, ↓Zkj, ↓Zkk, ↓Zkl, ↓Zkm, ↓Zkn, ↓Zko, ↓Zkp, ↓Zkq, ↓Zkr, ↓Zks, ↓Zkt, ↓Zku, ↓Zkv, ↓Zkw, ↓Zkx, ↓Zky, ↓Zkz, reduceIte, if_true, if_false, Bool.false_eq_true, Bool.and_true, Bool.true_and, Bool.and_false, Bool.false_and, Bool.or_true, Bool.true_or, Bool.or_false, Bool.false_or, Int.cast_ofNat_Int, Zla, Zlb, beq_self_eq_true, Int.reduceBEq, Int.reduceLT, Int.reduceLE, Int.reduceEq, Int.reduceNeg, Nat.reduceLT, Zlc, Zld, Zle, Zlf, Zlg, Zlh, Zli, Zlj, Zlk, Zll, Zlm, Zln, Zlo, Zlp, Zlq, Zlr, Zls, Zlt, Zlu, Zlv, Zlw, Zlx, Zly, Zlz, Zma, Zmb, Zmc, Zmd, Zme, Zmf, Zmg, Zmh, Zmi, Zmj, Zmk, Zml, Zmm, Zmn, Zmo, Zmp, Zmq, Zmr, Zms, Zmt, Zmu, Zmv, Zmw, Zmx, Zmy, Zmz, Zna, Znb, Znc, Znd, Zne, Znf, Zng, Znh, Zni, Znj, Znk, Znl, Znm, Znn, Zno, List.lookup_nil, Znp, Znq, Option.map_some, Option.map_none, Option.bind_some, Option.bind_none, List.map_nil, List.map_cons, List.nil_append, List.cons_append, List.append_nil, List.length_cons, List.length_nil, Nat.reduceAdd, Nat.reduceLeDiff, Nat.reduceEqDiff, Nat.reduceBEq, decide_true, decide_false, Bool.not_true, Bool.not_false, Znr, Zns, Znt, Znu, Znv, Znw, Znx, Zny, Znz, Zoa, Zob, Zoc, Zod, Zoe, List.getElem?_cons_zero, List.getElem?_cons_succ, Zof, Zog, Zoh, Zoi, Zoj, Zok, Zol, Zom, Zon, Zoo, Zop, Zoq, Zor, Zos, Zot, Zou, Zov, Zow, Zox, Zoy, setX, Zoz, Zpa, Zpb, Int.ofNat_lt, Int.ofNat_le, Zpc, Zpd, Zpe, Zpf, Zpg, Zph, b1, ea, b2, ixD_s hl2, List.getElem?_eq_getElem k1, List.getElem?_eq_getElem k2, e, decide_eq_true a1, decide_eq_true a2]
          refine ⟨rfl, rfl, ?_⟩
          simp only [List.getElem?_eq_getElem k2, decide_eq_true a1, decide_eq_true a2, Bool.and_self, if_true]
        · have b2 : decide (c ≤ i + p) = false := decide_eq_false a2
          simp -implicitDefEqProofs -dsimp only [↓Zaa, ↓Zab, ↓Zac, ↓Zad, ↓Zae, ↓Zaf, ↓Zag, ↓Zah, ↓Zai, ↓Zaj, ↓Zak, ↓Zal, ↓Zam, ↓Zan, ↓Zao, ↓Zap, ↓Zaq, ↓Zar, ↓Zas, ↓Zat, ↓Zau, ↓Zav, ↓Zaw, ↓Zax, ↓Zay, ↓Zaz, ↓Zba, ↓Zbb, ↓Zbc, ↓Zbd, ↓Zbe, ↓Zbf, ↓Zbg, ↓Zbh, ↓Zbi, ↓Zbj, ↓Zbk, ↓Zbl, ↓Zbm, ↓Zbn, ↓Zbo, ↓Zbp, ↓Zbq, ↓Zbr, ↓Zbs, ↓Zbt, ↓Zbu, ↓Zbv, ↓Zbw, ↓Zbx, ↓Zby, ↓Zbz, ↓Zca, ↓Zcb, ↓Zcc, ↓Zcd, ↓Zce, ↓Zcf, ↓Zcg, ↓Zch, ↓Zci, ↓Zcj, ↓Zck, ↓Zcl, ↓Zcm, ↓Zcn, ↓Zco, ↓Zcp, ↓Zcq, ↓Zcr, ↓Zcs, ↓Zct, ↓Zcu, ↓Zcv, ↓Zcw, ↓Zcx, ↓Zcy, ↓Zcz, ↓Zda, ↓Zdb, ↓Zdc, ↓Zdd, ↓Zde, ↓Zdf, ↓Zdg, ↓Zdh, ↓Zdi, ↓Zdj, ↓Zdk, ↓Zdl, ↓Zdm, ↓Zdn, ↓Zdo, ↓Zdp, ↓Zdq, ↓Zdr, ↓Zds, ↓Zdt, ↓Zdu, ↓Zdv, ↓Zdw, ↓Zdx, ↓Zdy, ↓Zdz, ↓Zea, ↓Zeb, ↓Zec, ↓Zed, ↓Zee, ↓Zef, ↓Zeg, ↓Zeh, ↓Zei, ↓Zej, ↓Zek, ↓Zel, ↓Zem, ↓Zen, ↓Zeo, ↓Zep, ↓Zeq, ↓Zer, ↓Zes, ↓Zet, ↓Zeu, ↓Zev, ↓Zew, ↓Zex, ↓Zey, ↓Zez, ↓Zfa, ↓Zfb, ↓Zfc, ↓Zfd, ↓Zfe, ↓Zff, ↓Zfg, ↓Zfh, ↓Zfi, ↓Zfj, ↓Zfk, ↓Zfl, ↓Zfm, ↓Zfn, ↓Zfo, ↓Zfp, ↓Zfq, ↓Zfr, ↓Zfs, ↓Zft, ↓Zfu, ↓Zfv, ↓Zfw, ↓Zfx, ↓Zfy, ↓Zfz, ↓Zga, ↓Zgb, ↓Zgc, ↓Zgd, ↓Zge, ↓Zgf, ↓Zgg, ↓Zgh, ↓Zgi, ↓Zgj, ↓Zgk, ↓Zgl, ↓Zgm, ↓Zgn, ↓Zgo, ↓Zgp, ↓Zgq, ↓Zgr, ↓Zgs, ↓Zgt, ↓Zgu, ↓Zgv, ↓Zgw, ↓Zgx, ↓Zgy, ↓Zgz, ↓Zha, ↓Zhb, ↓Zhc, ↓Zhd, ↓Zhe, ↓Zhf, ↓Zhg, ↓Zhh, ↓Zhi, ↓Zhj, ↓Zhk, ↓Zhl, ↓Zhm, ↓Zhn, ↓Zho, ↓Zhp, ↓Zhq, ↓Zhr, ↓Zhs, ↓Zht, ↓Zhu, ↓Zhv, ↓Zhw, ↓Zhx, ↓Zhy, ↓Zhz, ↓Zia, ↓Zib, ↓Zic, ↓Zid, ↓Zie, ↓Zif, ↓Zig, ↓Zih, ↓Zii, ↓Zij, ↓Zik, ↓Zil, ↓Zim, ↓Zin, ↓Zio, ↓Ziq, ↓Zir, ↓Zis, ↓Zit, ↓Ziu, ↓Ziv, ↓Ziw, ↓Zix, ↓Ziy, ↓Ziz, ↓Zja, ↓Zjb, ↓Zjc, ↓Zjd, ↓Zje, ↓Zjf, ↓Zjg, ↓Zjh, ↓Zji, ↓Zjj, ↓Zjk, ↓Zjl, ↓Zjm, ↓Zjn, ↓Zjo, ↓Zjp, ↓Zjq, ↓Zjr, ↓Zjs, ↓Zjt, ↓Zju, ↓Zjv, ↓Zjw, ↓Zjx, ↓Zjy, ↓Zjz, ↓Zka, ↓Zkb, ↓Zkc, ↓Zkd, ↓Zke, ↓Zkf, ↓Zkg, ↓Zkh, ↓Zki, ↓Zkj, ↓Zkk, ↓Zkl, ↓Zkm, ↓Zkn, ↓Zko, ↓Zkp, ↓Zkq, ↓Zkr, ↓Zks, ↓Zkt, ↓Zku, ↓Zkv, ↓Zkw, ↓Zkx, ↓Zky, ↓Zkz, reduceIte, if_true, if_false, Bool.false_eq_true, Bool.and_true, Bool.true_and, Bool.and_false, Bool.false_and, Bool.or_true, Bool.true_or, Bool.or_false, Bool.false_or, Int.cast_ofNat_Int, Zla, Zlb, beq_self_eq_true, Int.reduceBEq, Int.reduceLT, Int.reduceLE, Int.reduceEq, Int.reduceNeg, Nat.reduceLT, Zlc, Zld, Zle, Zlf, Zlg, Zlh, Zli, Zlj, Zlk, Zll, Zlm, Zln, Zlo, Zlp, Zlq, Zlr, Zls, Zlt, Zlu, Zlv, Zlw, Zlx, Zly, Zlz, Zma, Zmb, Zmc, Zmd, Zme, Zmf, Zmg, Zmh, Zmi, Zmj, Zmk, Zml, Zmm, Zmn, Zmo, Zmp, Zmq, Zmr, Zms, Zmt, Zmu, Zmv, Zmw, Zmx, Zmy, Zmz, Zna, Znb, Znc, Znd, Zne, Znf, Zng, Znh, Zni, Znj, Znk, Znl, Znm, Znn, Zno, List.lookup_nil, Znp, Znq, Option.map_some, Option.map_none, Option.bind_some, Option.bind_none, List.map_nil, List.map_cons, List.nil_append, List.cons_append, List.append_nil, List.length_cons, List.length_nil, Nat.reduceAdd, Nat.reduceLeDiff, Nat.reduceEqDiff, Nat.reduceBEq, decide_true, decide_false, Bool.not_true, Bool.not_false, Znr, Zns, Znt, Znu, Znv, Znw, Znx, Zny, Znz, Zoa, Zob, Zoc, Zod, Zoe, List.getElem?_cons_zero, List.getElem?_cons_succ, Zof, Zog, Zoh, Zoi, Zoj, Zok, Zol, Zom, Zon, Zoo, Zop, Zoq, Zor, Zos, Zot, Zou, Zov, Zow, Zox, Zoy, setX, Zoz, Zpa, Zpb, Int.ofNat_lt, Int.ofNat_le, Zpc, Zpd, Zpe, Zpf, Zpg, Zph, b1, ea, b2, decide_eq_true a1, decide_eq_false a2]
          refine ⟨rfl, rfl, ?_⟩
          simp [a1, a2]
      · have b1 : decide (0 + i < c) = false := decide_eq_false (by omega)
        simp -implicitDefEqProofs -dsimp only [↓Zaa, ↓Zab, ↓Zac, ↓Zad, ↓Zae, ↓Zaf, ↓Zag, ↓Zah, ↓Zai, ↓Zaj, ↓Zak, ↓Zal, ↓Zam, ↓Zan, ↓Zao, ↓Zap, ↓Zaq, ↓Zar, ↓Zas, ↓Zat, ↓Zau, ↓Zav, ↓Zaw, ↓Zax, ↓Zay, ↓Zaz, ↓Zba, ↓Zbb, ↓Zbc, ↓Zbd, ↓Zbe, ↓Zbf, ↓Zbg, ↓Zbh, ↓Zbi, ↓Zbj, ↓Zbk, ↓Zbl, ↓Zbm, ↓Zbn, ↓Zbo, ↓Zbp, ↓Zbq, ↓Zbr, ↓Zbs, ↓Zbt, ↓Zbu, ↓Zbv, ↓Zbw, ↓Zbx, ↓Zby, ↓Zbz, ↓Zca, ↓Zcb, ↓Zcc, ↓Zcd, ↓Zce, ↓Zcf, ↓Zcg, ↓Zch, ↓Zci, ↓Zcj, ↓Zck, ↓Zcl, ↓Zcm, ↓Zcn, ↓Zco, ↓Zcp, ↓Zcq, ↓Zcr, ↓Zcs, ↓Zct, ↓Zcu, ↓Zcv, ↓Zcw, ↓Zcx, ↓Zcy, ↓Zcz, ↓Zda, ↓Zdb, ↓Zdc, ↓Zdd, ↓Zde, ↓Zdf, ↓Zdg, ↓Zdh, ↓Zdi, ↓Zdj, ↓Zdk, ↓Zdl, ↓Zdm, ↓Zdn, ↓Zdo, ↓Zdp, ↓Zdq, ↓Zdr, ↓Zds, ↓Zdt, ↓Zdu, ↓Zdv, ↓Zdw, ↓Zdx, ↓Zdy, ↓Zdz, ↓Zea, ↓Zeb, ↓Zec, ↓Zed, ↓Zee, ↓Zef, ↓Zeg, ↓Zeh, ↓Zei, ↓Zej, ↓Zek, ↓Zel, ↓Zem, ↓Zen, ↓Zeo, ↓Zep, ↓Zeq, ↓Zer, ↓Zes, ↓Zet, ↓Zeu, ↓Zev, ↓Zew, ↓Zex, ↓Zey, ↓Zez, ↓Zfa, ↓Zfb, ↓Zfc, ↓Zfd, ↓Zfe, ↓Zff, ↓Zfg, ↓Zfh, ↓Zfi, ↓Zfj, ↓Zfk, ↓Zfl, ↓Zfm, ↓Zfn, ↓Zfo, ↓Zfp, ↓Zfq, ↓Zfr, ↓Zfs, ↓Zft, ↓Zfu, ↓Zfv, ↓Zfw, ↓Zfx, ↓Zfy, ↓Zfz, ↓Zga, ↓Zgb, ↓Zgc, ↓Zgd, ↓Zge, ↓Zgf, ↓Zgg, ↓Zgh, ↓Zgi, ↓Zgj, ↓Zgk, ↓Zgl, ↓Zgm, ↓Zgn, ↓Zgo, ↓Zgp, ↓Zgq, ↓Zgr, ↓Zgs, ↓Zgt, ↓Zgu, ↓Zgv, ↓Zgw, ↓Zgx, ↓Zgy, ↓Zgz, ↓Zha, ↓Zhb, ↓Zhc, ↓Zhd, ↓Zhe, ↓Zhf, ↓Zhg, ↓Zhh, ↓Zhi, ↓Zhj, ↓Zhk, ↓Zhl, ↓Zhm, ↓Zhn, ↓Zho, ↓Zhp, ↓Zhq, ↓Zhr, ↓Zhs, ↓Zht, ↓Zhu, ↓Zhv, ↓Zhw, ↓Zhx, ↓Zhy, ↓Zhz, ↓Zia, ↓Zib, ↓Zic, ↓Zid, ↓Zie, ↓Zif, ↓Zig, ↓Zih, ↓Zii, ↓Zij, ↓Zik, ↓Zil, ↓Zim, ↓Zin, ↓Zio, ↓Ziq, ↓Zir, ↓Zis, ↓Zit, ↓Ziu, ↓Ziv, ↓Ziw, ↓Zix, ↓Ziy, ↓Ziz, ↓Zja, ↓Zjb, ↓Zjc, ↓Zjd, ↓Zje, ↓Zjf, ↓Zjg, ↓Zjh, ↓Zji, ↓Zjj, ↓Zjk, ↓Zjl, ↓Zjm, ↓Zjn, ↓Zjo, ↓Zjp, ↓Zjq, ↓Zjr, ↓Zjs, ↓Zjt, ↓Zju, ↓Zjv, ↓Zjw, ↓Zjx, ↓Zjy, ↓Zjz, ↓Zka, ↓Zkb, ↓Zkc, ↓Zkd, ↓Zke, ↓Zkf, ↓Zkg, ↓Zkh, ↓Zki, ↓Zkj, ↓Zkk, ↓Zkl, ↓Zkm, ↓Zkn, ↓Zko, ↓Zkp, ↓Zkq, ↓Zkr, ↓Zks, ↓Zkt, ↓Zku, ↓Zkv, ↓Zkw, ↓Zkx, ↓Zky, ↓Zkz, reduceIte, if_true, if_false, Bool.false_eq_true, Bool.and_true, Bool.true_and, Bool.and_false, Bool.false_and, Bool.or_true, Bool.true_or, Bool.or_false, Bool.false_or, Int.cast_ofNat_Int, Zla, Zlb, beq_self_eq_true, Int.reduceBEq, Int.reduceLT, Int.reduceLE, Int.reduceEq, Int.reduceNeg, Nat.reduceLT, Zlc, Zld, Zle, Zlf, Zlg, Zlh, Zli, Zlj, Zlk, Zll, Zlm, Zln, Zlo, Zlp, Zlq, Zlr, Zls, Zlt, Zlu, Zlv, Zlw, Zlx, Zly, Zlz, Zma, Zmb, Zmc, Zmd, Zme, Zmf, Zmg, Zmh, Zmi, Zmj, Zmk, Zml, Zmm, Zmn, Zmo, Zmp, Zmq, Zmr, Zms, Zmt, Zmu, Zmv, Zmw, Zmx, Zmy, Zmz, Zna, Znb, Znc, Znd, Zne, Znf, Zng, Znh, Zni, Znj, Znk, Znl, Znm, Znn, Zno, List.lookup_nil, Znp, Znq, Option.map_some, Option.map_none, Option.bind_some, Option.bind_none, List.map_nil, List.map_cons, List.nil_append, List.cons_append, List.append_nil, List.length_cons, List.length_nil, Nat.reduceAdd, Nat.reduceLeDiff, Nat.reduceEqDiff, Nat.reduceBEq, decide_true, decide_false, Bool.not_true, Bool.not_false, Znr, Zns, Znt, Znu, Znv, Znw, Znx, Zny, Znz, Zoa, Zob, Zoc, Zod, Zoe, List.getElem?_cons_zero, List.getElem?_cons_succ, Zof, Zog, Zoh, Zoi, Zoj, Zok, Zol, Zom, Zon, Zoo, Zop, Zoq, Zor, Zos, Zot, Zou, Zov, Zow, Zox, Zoy, setX, Zoz, Zpa, Zpb, Int.ofNat_lt, Int.ofNat_le, Zpc, Zpd, Zpe, Zpf, Zpg, Zph, b1, decide_eq_false a1]
        refine ⟨rfl, rfl, ?_⟩
        simp [a1]
    · have e : ((List.range (w.length - p)).filter fun i => decide (i < c) && decide (c ≤ i + p)).all (fun i => decide (w[i]? = w[i + p]?)) = decide (Loc w c p) := by
        rw [Bool.eq_iff_iff, List.all_eq_true, decide_eq_true_iff]
        constructor
        · intro h i h1 h2 h3
          have := h i (List.mem_filter.mpr ⟨List.mem_range.mpr (by omega), by simp [h1, h2]⟩)
          rwa [decide_eq_true_iff] at this
        · intro h i hi
          obtain ⟨hi, q⟩ := List.mem_filter.mp hi
          have hi := List.mem_range.mp hi
          simp at q
          rw [decide_eq_true_iff]
          exact h i q.1 q.2 (by omega)
      by_cases h : Loc w c p
      · have e1 : p = lp w c := by
          apply Classical.byContradiction
          intro hne
          exact g4 p h1 (by omega) h
        rw [decide_eq_true h] at e
        simp -implicitDefEqProofs -dsimp only [↓Zaa, ↓Zab, ↓Zac, ↓Zad, ↓Zae, ↓Zaf, ↓Zag, ↓Zah, ↓Zai, ↓Zaj, ↓Zak, ↓Zal, ↓Zam, ↓Zan, ↓Zao, ↓Zap, ↓Zaq, ↓Zar, ↓Zas, ↓Zat, ↓Zau, ↓Zav, ↓Zaw, ↓Zax, ↓Zay, ↓Zaz, ↓Zba, ↓Zbb, ↓Zbc, ↓Zbd, ↓Zbe, ↓Zbf, ↓Zbg, ↓Zbh, ↓Zbi, ↓Zbj, ↓Zbk, ↓Zbl, ↓Zbm, ↓Zbn, ↓Zbo, ↓Zbp, ↓Zbq, ↓Zbr, ↓Zbs, ↓Zbt, ↓Zbu, ↓Zbv, ↓Zbw, ↓Zbx, ↓Zby, ↓Zbz, ↓Zca, ↓Zcb, ↓Zcc, ↓Zcd, ↓Zce, ↓Zcf, ↓Zcg, ↓Zch, ↓Zci, ↓Zcj, ↓Zck, ↓Zcl, ↓Zcm, ↓Zcn, ↓Zco, ↓Zcp, ↓Zcq, ↓Zcr, ↓Zcs, ↓Zct, ↓Zcu, ↓Zcv, ↓Zcw, ↓Zcx, ↓Zcy, ↓Zcz, ↓Zda, ↓Zdb, ↓Zdc, ↓Zdd, ↓Zde, ↓Zdf, ↓Zdg, ↓Zdh, ↓Zdi, ↓Zdj, ↓Zdk, ↓Zdl, ↓Zdm, ↓Zdn, ↓Zdo, ↓Zdp, ↓Zdq, ↓Zdr, ↓Zds, ↓Zdt, ↓Zdu, ↓Zdv, ↓Zdw, ↓Zdx, ↓Zdy, ↓Zdz, ↓Zea, ↓Zeb, ↓Zec, ↓Zed, ↓Zee, ↓Zef, ↓Zeg, ↓Zeh, ↓Zei, ↓Zej, ↓Zek, ↓Zel, ↓Zem, ↓Zen, ↓Zeo, ↓Zep, ↓Zeq, ↓Zer, ↓Zes, ↓Zet, ↓Zeu, ↓Zev, ↓Zew, ↓Zex, ↓Zey, ↓Zez, ↓Zfa, ↓Zfb, ↓Zfc, ↓Zfd, ↓Zfe, ↓Zff, ↓Zfg, ↓Zfh, ↓Zfi, ↓Zfj, ↓Zfk, ↓Zfl, ↓Zfm, ↓Zfn, ↓Zfo, ↓Zfp, ↓Zfq, ↓Zfr, ↓Zfs, ↓Zft, ↓Zfu, ↓Zfv, ↓Zfw, ↓Zfx, ↓Zfy, ↓Zfz, ↓Zga, ↓Zgb, ↓Zgc, ↓Zgd, ↓Zge, ↓Zgf, ↓Zgg, ↓Zgh, ↓Zgi, ↓Zgj, ↓Zgk, ↓Zgl, ↓Zgm, ↓Zgn, ↓Zgo, ↓Zgp, ↓Zgq, ↓Zgr, ↓Zgs, ↓Zgt, ↓Zgu, ↓Zgv, ↓Zgw, ↓Zgx, ↓Zgy, ↓Zgz, ↓Zha, ↓Zhb, ↓Zhc, ↓Zhd, ↓Zhe, ↓Zhf, ↓Zhg, ↓Zhh, ↓Zhi, ↓Zhj, ↓Zhk, ↓Zhl, ↓Zhm, ↓Zhn, ↓Zho, ↓Zhp, ↓Zhq, ↓Zhr, ↓Zhs, ↓Zht, ↓Zhu, ↓Zhv, ↓Zhw, ↓Zhx, ↓Zhy, ↓Zhz, ↓Zia, ↓Zib, ↓Zic, ↓Zid, ↓Zie, ↓Zif, ↓Zig, ↓Zih, ↓Zii, ↓Zij, ↓Zik, ↓Zil, ↓Zim, ↓Zin, ↓Zio, ↓Ziq, ↓Zir, ↓Zis, ↓Zit, ↓Ziu, ↓Ziv, ↓Ziw, ↓Zix, ↓Ziy, ↓Ziz, ↓Zja, ↓Zjb, ↓Zjc, ↓Zjd, ↓Zje, ↓Zjf, ↓Zjg, ↓Zjh, ↓Zji, ↓Zjj, ↓Zjk, ↓Zjl, ↓Zjm, ↓Zjn, ↓Zjo, ↓Zjp, ↓Zjq, ↓Zjr, ↓Zjs, ↓Zjt, ↓Zju, ↓Zjv, ↓Zjw, ↓Zjx, ↓Zjy, ↓Zjz, ↓Zka, ↓Zkb, ↓Zkc, ↓Zkd, ↓Zke, ↓Zkf, ↓Zkg, ↓Zkh, ↓Zki, ↓Zkj, ↓Zkk, ↓Zkl, ↓Zkm, ↓Zkn, ↓Zko, ↓Zkp, ↓Zkq, ↓Zkr, ↓Zks, ↓Zkt, ↓Zku, ↓Zkv, ↓Zkw, ↓Zkx, ↓Zky, ↓Zkz, reduceIte, if_true, if_false, Bool.false_eq_true, Bool.and_true, Bool.true_and, Bool.and_false, Bool.false_and, Bool.or_true, Bool.true_or, Bool.or_false, Bool.false_or, Int.cast_ofNat_Int, Zla, Zlb, beq_self_eq_true, Int.reduceBEq, Int.reduceLT, Int.reduceLE, Int.reduceEq, Int.reduceNeg, Nat.reduceLT, Zlc, Zld, Zle, Zlf, Zlg, Zlh, Zli, Zlj, Zlk, Zll, Zlm, Zln, Zlo, Zlp, Zlq, Zlr, Zls, Zlt, Zlu, Zlv, Zlw, Zlx, Zly, Zlz, Zma, Zmb, Zmc, Zmd, Zme, Zmf, Zmg, Zmh, Zmi, Zmj, Zmk, Zml, Zmm, Zmn, Zmo, Zmp, Zmq, Zmr, Zms, Zmt, Zmu, Zmv, Zmw, Zmx, Zmy, Zmz, Zna, Znb, Znc, Znd, Zne, Znf, Zng, Znh, Zni, Znj, Znk, Znl, Znm, Znn, Zno, List.lookup_nil, Znp, Znq, Option.map_some, Option.map_none, Option.bind_some, Option.bind_none, List.map_nil, List.map_cons, List.nil_append, List.cons_append, List.append_nil, List.length_cons, List.length_nil, Nat.reduceAdd, Nat.reduceLeDiff, Nat.reduceEqDiff, Nat.reduceBEq, decide_true, decide_false, Bool.not_true, Bool.not_false, Znr, Zns, Znt, Znu, Znv, Znw, Znx, Zny, Znz, Zoa, Zob, Zoc, Zod, Zoe, List.getElem?_cons_zero, List.getElem?_cons_succ, Zof, Zog, Zoh, Zoi, Zoj, Zok, Zol, Zom, Zon, Zoo, Zop, Zoq, Zor, Zos, Zot, Zou, Zov, Zow, Zox, Zoy, setX, Zoz, Zpa, Zpb, Int.ofNat_lt, Int.ofNat_le, Zpc, Zpd, Zpe, Zpf, Zpg, Zph, Zop, e]
        simp only [e1]
      · rw [decide_eq_false h] at e
        have hne : p ≠ lp w c := fun e => h (e ▸ g1)
        simp -implicitDefEqProofs -dsimp only [↓Zaa, ↓Zab, ↓Zac, ↓Zad, ↓Zae, ↓Zaf, ↓Zag, ↓Zah, ↓Zai, ↓Zaj, ↓Zak, ↓Zal, ↓Zam, ↓Zan, ↓Zao, ↓Zap, ↓Zaq, ↓Zar, ↓Zas, ↓Zat, ↓Zau, ↓Zav, ↓Zaw, ↓Zax, ↓Zay, ↓Zaz, ↓Zba, ↓Zbb, ↓Zbc, ↓Zbd, ↓Zbe, ↓Zbf, ↓Zbg, ↓Zbh, ↓Zbi, ↓Zbj, ↓Zbk, ↓Zbl, ↓Zbm, ↓Zbn, ↓Zbo, ↓Zbp, ↓Zbq, ↓Zbr, ↓Zbs, ↓Zbt, ↓Zbu, ↓Zbv, ↓Zbw, ↓Zbx, ↓Zby, ↓Zbz, ↓Zca, ↓Zcb, ↓Zcc, ↓Zcd, ↓Zce, ↓Zcf, ↓Zcg, ↓Zch, ↓Zci, ↓Zcj, ↓Zck, ↓Zcl, ↓Zcm, ↓Zcn, ↓Zco, ↓Zcp, ↓Zcq, ↓Zcr, ↓Zcs, ↓Zct, ↓Zcu, ↓Zcv, ↓Zcw, ↓Zcx, ↓Zcy, ↓Zcz, ↓Zda, ↓Zdb, ↓Zdc, ↓Zdd, ↓Zde, ↓Zdf, ↓Zdg, ↓Zdh, ↓Zdi, ↓Zdj, ↓Zdk, ↓Zdl, ↓Zdm, ↓Zdn, ↓Zdo, ↓Zdp, ↓Zdq, ↓Zdr, ↓Zds, ↓Zdt, ↓Zdu, ↓Zdv, ↓Zdw, ↓Zdx, ↓Zdy, ↓Zdz, ↓Zea, ↓Zeb, ↓Zec, ↓Zed, ↓Zee, ↓Zef, ↓Zeg, ↓Zeh, ↓Zei, ↓Zej, ↓Zek, ↓Zel, ↓Zem, ↓Zen, ↓Zeo, ↓Zep, ↓Zeq, ↓Zer, ↓Zes, ↓Zet, ↓Zeu, ↓Zev, ↓Zew, ↓Zex, ↓Zey, ↓Zez, ↓Zfa, ↓Zfb, ↓Zfc, ↓Zfd, ↓Zfe, ↓Zff, ↓Zfg, ↓Zfh, ↓Zfi, ↓Zfj, ↓Zfk, ↓Zfl, ↓Zfm, ↓Zfn, ↓Zfo, ↓Zfp, ↓Zfq, ↓Zfr, ↓Zfs, ↓Zft, ↓Zfu, ↓Zfv, ↓Zfw, ↓Zfx, ↓Zfy, ↓Zfz, ↓Zga, ↓Zgb, ↓Zgc, ↓Zgd, ↓Zge, ↓Zgf, ↓Zgg, ↓Zgh, ↓Zgi, ↓Zgj, ↓Zgk, ↓Zgl, ↓Zgm, ↓Zgn, ↓Zgo, ↓Zgp, ↓Zgq, ↓Zgr, ↓Zgs, ↓Zgt, ↓Zgu, ↓Zgv, ↓Zgw, ↓Zgx, ↓Zgy, ↓Zgz, ↓Zha, ↓Zhb, ↓Zhc, ↓Zhd, ↓Zhe, ↓Zhf, ↓Zhg, ↓Zhh, ↓Zhi, ↓Zhj, ↓Zhk, ↓Zhl, ↓Zhm, ↓Zhn, ↓Zho, ↓Zhp, ↓Zhq, ↓Zhr, ↓Zhs, ↓Zht, ↓Zhu, ↓Zhv, ↓Zhw, ↓Zhx, ↓Zhy, ↓Zhz, ↓Zia, ↓Zib, ↓Zic, ↓Zid, ↓Zie, ↓Zif, ↓Zig, ↓Zih, ↓Zii, ↓Zij, ↓Zik, ↓Zil, ↓Zim, ↓Zin, ↓Zio, ↓Ziq, ↓Zir, ↓Zis, ↓Zit, ↓Ziu, ↓Ziv, ↓Ziw, ↓Zix, ↓Ziy, ↓Ziz, ↓Zja, ↓Zjb, ↓Zjc, ↓Zjd, ↓Zje, ↓Zjf, ↓Zjg, ↓Zjh, ↓Zji, ↓Zjj, ↓Zjk, ↓Zjl, ↓Zjm, ↓Zjn, ↓Zjo, ↓Zjp, ↓Zjq, ↓Zjr, ↓Zjs, ↓Zjt, ↓Zju, ↓Zjv, ↓Zjw, ↓Zjx, ↓Zjy, ↓Zjz, ↓Zka, ↓Zkb, ↓Zkc, ↓Zkd, ↓Zke, ↓Zkf, ↓Zkg, ↓Zkh, ↓Zki, ↓Zkj, ↓Zkk, ↓Zkl, ↓Zkm, ↓Zkn, ↓Zko, ↓Zkp, ↓Zkq, ↓Zkr, ↓Zks, ↓Zkt, ↓Zku, ↓Zkv, ↓Zkw, ↓Zkx, ↓Zky, ↓Zkz, reduceIte, if_true, if_false, Bool.false_eq_true, Bool.and_true, Bool.true_and, Bool.and_false, Bool.false_and, Bool.or_true, Bool.true_or, Bool.or_false, Bool.false_or, Int.cast_ofNat_Int, Zla, Zlb, beq_self_eq_true, Int.reduceBEq, Int.reduceLT, Int.reduceLE, Int.reduceEq, Int.reduceNeg, Nat.reduceLT, Zlc, Zld, Zle, Zlf, Zlg, Zlh, Zli, Zlj, Zlk, Zll, Zlm, Zln, Zlo, Zlp, Zlq, Zlr, Zls, Zlt, Zlu, Zlv, Zlw, Zlx, Zly, Zlz, Zma, Zmb, Zmc, Zmd, Zme, Zmf, Zmg, Zmh, Zmi, Zmj, Zmk, Zml, Zmm, Zmn, Zmo, Zmp, Zmq, Zmr, Zms, Zmt, Zmu, Zmv, Zmw, Zmx, Zmy, Zmz, Zna, Znb, Znc, Znd, Zne, Znf, Zng, Znh, Zni, Znj, Znk, Znl, Znm, Znn, Zno, List.lookup_nil, Znp, Znq, Option.map_some, Option.map_none, Option.bind_some, Option.bind_none, List.map_nil, List.map_cons, List.nil_append, List.cons_append, List.append_nil, List.length_cons, List.length_nil, Nat.reduceAdd, Nat.reduceLeDiff, Nat.reduceEqDiff, Nat.reduceBEq, decide_true, decide_false, Bool.not_true, Bool.not_false, Znr, Zns, Znt, Znu, Znv, Znw, Znx, Zny, Znz, Zoa, Zob, Zoc, Zod, Zoe, List.getElem?_cons_zero, List.getElem?_cons_succ, Zof, Zog, Zoh, Zoi, Zoj, Zok, Zol, Zom, Zon, Zoo, Zop, Zoq, Zor, Zos, Zot, Zou, Zov, Zow, Zox, Zoy, setX, Zoz, Zpa, Zpb, Int.ofNat_lt, Int.ofNat_le, Zpc, Zpd, Zpe, Zpf, Zpg, Zph, Zop, e]
        refine ⟨⟨p + 1, ?_, by omega, by omega⟩, ?_⟩
        · rw [show ((p : Nat) : Int) + 1 = ((p + 1 : Nat) : Int) by omega]
        · show w.length - ((p : Int) + 1).toNat < w.length - (p : Int).toNat
          omega
open Classical in
noncomputable def mxB (w : List Nat) (m : Nat) : Nat → Nat
  | 0 => 0
  | k + 1 => if Brd w m k then k else mxB w m k
theorem mxB_spec {w : List Nat} {m : Nat} : ∀ {K : Nat}, (∃ k, k < K ∧ Brd w m k) → Brd w m (mxB w m K) ∧ ∀ k, k < K → Brd w m k → k ≤ mxB w m K
  | 0, ⟨k, h, _⟩ => by omega
  | K + 1, ⟨k, h, hb⟩ => by
    unfold mxB
    by_cases q : Brd w m K
    · rw [if_pos q]
      exact ⟨q, fun j hj _ => by omega⟩
    · rw [if_neg q]
      have hk : k ≠ K := fun e => q (e ▸ hb)
      obtain ⟨a, b⟩ := mxB_spec (w := w) (m := m) (K := K) ⟨k, by omega, hb⟩
      refine ⟨a, fun j hj hbj => ?_⟩
      have : j ≠ K := fun e => q (e ▸ hbj)
      exact b j (by omega) hbj
noncomputable def bdr (w : List Nat) (m : Nat) : Nat := mxB w m m
theorem bdr_spec {w : List Nat} {m : Nat} (h : 0 < m) : Brd w m (bdr w m) ∧ ∀ k, Brd w m k → k ≤ bdr w m := by
  obtain ⟨a, b⟩ := mxB_spec (w := w) (m := m) (K := m) ⟨0, h, Brd.zero h⟩
  exact ⟨a, fun k hk => b k hk.1 hk⟩
theorem bdr_0 {w : List Nat} : bdr w 0 = 0 := rfl
theorem bdr_eq {w : List Nat} {m k : Nat} (h : Brd w m k) (hm : ∀ j, Brd w m j → j ≤ k) : bdr w m = k := by
  obtain ⟨a, b⟩ := bdr_spec (w := w) (m := m) (by have := h.1; omega)
  have := b k h
  have := hm _ a
  omega
theorem bdr_1 {w : List Nat} : bdr w 1 = 0 := bdr_eq (Brd.zero (by decide)) fun j hj => by have := hj.1; omega
noncomputable abbrev rowB (w : List Nat) (n : Nat) : List D := vec n fun j => .int (bdr w (j + 1))
theorem q_brow {w : List Nat} (hw : Wd w) : φ_border_row [.val (.str w)] = .ok (.o (.l (rowB w w.length))) [] := by
  apply run_border_row
  unfold g_border_row
  have hl := hw.len
  have hl2 : w.length ≤ 16777216 := by omega
  have ew : (w.map fun c => D.str [c]) = vec w.length fun i => .str [w.getD i 0] := vec_of (by simp) fun i hi => by
    rw [List.getElem?_map, List.getElem?_eq_getElem hi, List.getD_eq_getElem?_getD, List.getElem?_eq_getElem hi]
    rfl
  simp -implicitDefEqProofs -dsimp only [↓Zaa, ↓Zab, ↓Zac, ↓Zad, ↓Zae, ↓Zaf, ↓Zag, ↓Zah, ↓Zai, ↓Zaj, ↓Zak, ↓Zal, ↓Zam, ↓Zan, ↓Zao, ↓Zap, ↓Zaq, ↓Zar, ↓Zas, ↓Zat, ↓Zau, ↓Zav, ↓Zaw, ↓Zax, ↓Zay, ↓Zaz, ↓Zba, ↓Zbb, ↓Zbc, ↓Zbd, ↓Zbe, ↓Zbf, ↓Zbg, ↓Zbh, ↓Zbi, ↓Zbj, ↓Zbk, ↓Zbl, ↓Zbm, ↓Zbn, ↓Zbo, ↓Zbp, ↓Zbq, ↓Zbr, ↓Zbs, ↓Zbt, ↓Zbu, ↓Zbv, ↓Zbw, ↓Zbx, ↓Zby, ↓Zbz, ↓Zca, ↓Zcb, ↓Zcc, ↓Zcd, ↓Zce, ↓Zcf, ↓Zcg, ↓Zch, ↓Zci, ↓Zcj, ↓Zck, ↓Zcl, ↓Zcm, ↓Zcn, ↓Zco, ↓Zcp, ↓Zcq, ↓Zcr, ↓Zcs, ↓Zct, ↓Zcu, ↓Zcv, ↓Zcw, ↓Zcx, ↓Zcy, ↓Zcz, ↓Zda, ↓Zdb, ↓Zdc, ↓Zdd, ↓Zde, ↓Zdf, ↓Zdg, ↓Zdh, ↓Zdi, ↓Zdj, ↓Zdk, ↓Zdl, ↓Zdm, ↓Zdn, ↓Zdo, ↓Zdp, ↓Zdq, ↓Zdr, ↓Zds, ↓Zdt, ↓Zdu, ↓Zdv, ↓Zdw, ↓Zdx, ↓Zdy, ↓Zdz, ↓Zea, ↓Zeb, ↓Zec, ↓Zed, ↓Zee, ↓Zef, ↓Zeg, ↓Zeh, ↓Zei, ↓Zej, ↓Zek, ↓Zel, ↓Zem, ↓Zen, ↓Zeo, ↓Zep, ↓Zeq, ↓Zer, ↓Zes, ↓Zet, ↓Zeu, ↓Zev, ↓Zew, ↓Zex, ↓Zey, ↓Zez, ↓Zfa, ↓Zfb, ↓Zfc, ↓Zfd, ↓Zfe, ↓Zff, ↓Zfg, ↓Zfh, ↓Zfi, ↓Zfj, ↓Zfk, ↓Zfl, ↓Zfm, ↓Zfn, ↓Zfo, ↓Zfp, ↓Zfq, ↓Zfr, ↓Zfs, ↓Zft, ↓Zfu, ↓Zfv, ↓Zfw, ↓Zfx, ↓Zfy, ↓Zfz, ↓Zga, ↓Zgb, ↓Zgc, ↓Zgd, ↓Zge, ↓Zgf, ↓Zgg, ↓Zgh, ↓Zgi, ↓Zgj, ↓Zgk, ↓Zgl, ↓Zgm, ↓Zgn, ↓Zgo, ↓Zgp, ↓Zgq, ↓Zgr, ↓Zgs, ↓Zgt, ↓Zgu, ↓Zgv, ↓Zgw, ↓Zgx, ↓Zgy, ↓Zgz, ↓Zha, ↓Zhb, ↓Zhc, ↓Zhd, ↓Zhe, ↓Zhf, ↓Zhg, ↓Zhh, ↓Zhi, ↓Zhj, ↓Zhk, ↓Zhl, ↓Zhm, ↓Zhn, ↓Zho, ↓Zhp, ↓Zhq, ↓Zhr, ↓Zhs, ↓Zht, ↓Zhu, ↓Zhv, ↓Zhw, ↓Zhx, ↓Zhy, ↓Zhz, ↓Zia, ↓Zib, ↓Zic, ↓Zid, ↓Zie, ↓Zif, ↓Zig, ↓Zih, ↓Zii, ↓Zij, ↓Zik, ↓Zil, ↓Zim, ↓Zin, ↓Zio, ↓Ziq, ↓Zir, ↓Zis, ↓Zit, ↓Ziu, ↓Ziv, ↓Ziw, ↓Zix, ↓Ziy, ↓Ziz, ↓Zja, ↓Zjb, ↓Zjc, ↓Zjd, ↓Zje, ↓Zjf, ↓Zjg, ↓Zjh, ↓Zji, ↓Zjj, ↓Zjk, ↓Zjl, ↓Zjm, ↓Zjn, ↓Zjo, ↓Zjp, ↓Zjq, ↓Zjr, ↓Zjs, ↓Zjt, ↓Zju, ↓Zjv, ↓Zjw, ↓Zjx, ↓Zjy, ↓Zjz, ↓Zka, ↓Zkb, ↓Zkc, ↓Zkd, ↓Zke, ↓Zkf, ↓Zkg, ↓Zkh, ↓Zki, ↓Zkj, ↓Zkk, ↓Zkl, ↓Zkm, ↓Zkn, ↓Zko, ↓Zkp, ↓Zkq, ↓Zkr, ↓Zks, ↓Zkt, ↓Zku, ↓Zkv, ↓Zkw, ↓Zkx, ↓Zky, ↓Zkz, reduceIte, if_true, if_false, Bool.false_eq_true, Bool.and_true, Bool.true_and, Bool.and_false, Bool.false_and, Bool.or_true, Bool.true_or, Bool.or_false, Bool.false_or, Int.cast_ofNat_Int, Zla, Zlb, beq_self_eq_true, Int.reduceBEq, Int.reduceLT, Int.reduceLE, Int.reduceEq, Int.reduceNeg, Nat.reduceLT, Zlc, Zld, Zle, Zlf, Zlg, Zlh, Zli, Zlj, Zlk, Zll, Zlm, Zln, Zlo, Zlp, Zlq, Zlr, Zls, Zlt, Zlu, Zlv, Zlw, Zlx, Zly, Zlz, Zma, Zmb, Zmc, Zmd, Zme, Zmf, Zmg, Zmh, Zmi, Zmj, Zmk, Zml, Zmm, Zmn, Zmo, Zmp, Zmq, Zmr, Zms, Zmt, Zmu, Zmv, Zmw, Zmx, Zmy, Zmz, Zna, Znb, Znc, Znd, Zne, Znf, Zng, Znh, Zni, Znj, Znk, Znl, Znm, Znn, Zno, List.lookup_nil, Znp, Znq, Option.map_some, Option.map_none, Option.bind_some, Option.bind_none, List.map_nil, List.map_cons, List.nil_append, List.cons_append, List.append_nil, List.length_cons, List.length_nil, Nat.reduceAdd, Nat.reduceLeDiff, Nat.reduceEqDiff, Nat.reduceBEq, decide_true, decide_false, Bool.not_true, Bool.not_false, Znr, Zns, Znt, Znu, Znv, Znw, Znx, Zny, Znz, Zoa, Zob, Zoc, Zod, Zoe, List.getElem?_cons_zero, List.getElem?_cons_succ, Zof, Zog, Zoh, Zoi, Zoj, Zok, Zol, Zom, Zon, Zoo, Zop, Zoq, Zor, Zos, Zot, Zou, Zov, Zow, Zox, Zoy, setX, Zoz, Zpa, Zpb, Int.ofNat_lt, Int.ofNat_le, Zpc, Zpd, Zpe, Zpf, Zpg, Zph]
  rw [ew, vec_enu]
  refine for_n (fun i e => ∃ x3 x4, e = [.val (.str w), .own false (.l (rowB w i)), .val (.int (bdr w i)), x3, x4] ∧ Fr1 x3 ∧ Fr1 x4) ?_ ?_ ?_
  · exact ⟨.un, .un, rfl, .un, .un⟩
  · rintro i e hi ⟨x3, x4, rfl, y3, y4⟩
    have hq : i < 16777216 := by omega
    by_cases h0 : i = 0
    · subst h0
      have e0 : decide (0 < ((0 : Nat) : Int)) = false := rfl
      simp -implicitDefEqProofs -dsimp only [↓Zaa, ↓Zab, ↓Zac, ↓Zad, ↓Zae, ↓Zaf, ↓Zag, ↓Zah, ↓Zai, ↓Zaj, ↓Zak, ↓Zal, ↓Zam, ↓Zan, ↓Zao, ↓Zap, ↓Zaq, ↓Zar, ↓Zas, ↓Zat, ↓Zau, ↓Zav, ↓Zaw, ↓Zax, ↓Zay, ↓Zaz, ↓Zba, ↓Zbb, ↓Zbc, ↓Zbd, ↓Zbe, ↓Zbf, ↓Zbg, ↓Zbh, ↓Zbi, ↓Zbj, ↓Zbk, ↓Zbl, ↓Zbm, ↓Zbn, ↓Zbo, ↓Zbp, ↓Zbq, ↓Zbr, ↓Zbs, ↓Zbt, ↓Zbu, ↓Zbv, ↓Zbw, ↓Zbx, ↓Zby, ↓Zbz, ↓Zca, ↓Zcb, ↓Zcc, ↓Zcd, ↓Zce, ↓Zcf, ↓Zcg, ↓Zch, ↓Zci, ↓Zcj, ↓Zck, ↓Zcl, ↓Zcm, ↓Zcn, ↓Zco, ↓Zcp, ↓Zcq, ↓Zcr, ↓Zcs, ↓Zct, ↓Zcu, ↓Zcv, ↓Zcw, ↓Zcx, ↓Zcy, ↓Zcz, ↓Zda, ↓Zdb, ↓Zdc, ↓Zdd, ↓Zde, ↓Zdf, ↓Zdg, ↓Zdh, ↓Zdi, ↓Zdj, ↓Zdk, ↓Zdl, ↓Zdm, ↓Zdn, ↓Zdo, ↓Zdp, ↓Zdq, ↓Zdr, ↓Zds, ↓Zdt, ↓Zdu, ↓Zdv, ↓Zdw, ↓Zdx, ↓Zdy, ↓Zdz, ↓Zea, ↓Zeb, ↓Zec, ↓Zed, ↓Zee, ↓Zef, ↓Zeg, ↓Zeh, ↓Zei, ↓Zej, ↓Zek, ↓Zel, ↓Zem, ↓Zen, ↓Zeo, ↓Zep, ↓Zeq, ↓Zer, ↓Zes, ↓Zet, ↓Zeu, ↓Zev, ↓Zew, ↓Zex, ↓Zey, ↓Zez, ↓Zfa, ↓Zfb, ↓Zfc, ↓Zfd, ↓Zfe, ↓Zff, ↓Zfg, ↓Zfh, ↓Zfi, ↓Zfj, ↓Zfk, ↓Zfl, ↓Zfm, ↓Zfn, ↓Zfo, ↓Zfp, ↓Zfq, ↓Zfr, ↓Zfs, ↓Zft, ↓Zfu, ↓Zfv, ↓Zfw, ↓Zfx, ↓Zfy, ↓Zfz, ↓Zga, ↓Zgb, ↓Zgc, ↓Zgd, ↓Zge, ↓Zgf, ↓Zgg, ↓Zgh, ↓Zgi, ↓Zgj, ↓Zgk, ↓Zgl, ↓Zgm, ↓Zgn, ↓Zgo, ↓Zgp, ↓Zgq, ↓Zgr, ↓Zgs, ↓Zgt, ↓Zgu, ↓Zgv, ↓Zgw, ↓Zgx, ↓Zgy, ↓Zgz, ↓Zha, ↓Zhb, ↓Zhc, ↓Zhd, ↓Zhe, ↓Zhf, ↓Zhg, ↓Zhh, ↓Zhi, ↓Zhj, ↓Zhk, ↓Zhl, ↓Zhm, ↓Zhn, ↓Zho, ↓Zhp, ↓Zhq, ↓Zhr, ↓Zhs, ↓Zht, ↓Zhu, ↓Zhv, ↓Zhw, ↓Zhx, ↓Zhy, ↓Zhz, ↓Zia, ↓Zib, ↓Zic, ↓Zid, ↓Zie, ↓Zif, ↓Zig, ↓Zih, ↓Zii, ↓Zij, ↓Zik, ↓Zil, ↓Zim, ↓Zin, ↓Zio, ↓Ziq, ↓Zir, ↓Zis, ↓Zit, ↓Ziu, ↓Ziv, ↓Ziw, ↓Zix, ↓Ziy, ↓Ziz, ↓Zja, ↓Zjb, ↓Zjc, ↓Zjd, ↓Zje, ↓Zjf, ↓Zjg, ↓Zjh, ↓Zji, ↓Zjj, ↓Zjk, ↓Zjl, ↓Zjm, ↓Zjn, ↓Zjo, ↓Zjp, ↓Zjq, ↓Zjr, ↓Zjs, ↓Zjt, ↓Zju, ↓Zjv, ↓Zjw, ↓Zjx, ↓Zjy, ↓Zjz, ↓Zka, ↓Zkb, ↓Zkc, ↓Zkd, ↓Zke, ↓Zkf, ↓Zkg, ↓Zkh, ↓Zki, ↓Zkj, ↓Zkk, ↓Zkl, ↓Zkm, ↓Zkn, ↓Zko, ↓Zkp, ↓Zkq, ↓Zkr, ↓Zks, ↓Zkt, ↓Zku, ↓Zkv, ↓Zkw, ↓Zkx, ↓Zky, ↓Zkz, reduceIte, if_true, if_false, Bool.false_eq_true, Bool.and_true, Bool.true_and, Bool.and_false, Bool.false_and, Bool.or_true, Bool.true_or, Bool.or_false, Bool.false_or, Int.cast_ofNat_Int, Zla, Zlb, beq_self_eq_true, Int.reduceBEq, Int.reduceLT, Int.reduceLE, Int.reduceEq, Int.reduceNeg, Nat.reduceLT, Zlc, Zld, Zle, Zlf, Zlg, Zlh, Zli, Zlj, Zlk, Zll, Zlm, Zln, Zlo, Zlp, Zlq, Zlr, Zls, Zlt, Zlu, Zlv, Zlw, Zlx, Zly, Zlz, Zma, Zmb, Zmc, Zmd, Zme, Zmf, Zmg, Zmh, Zmi, Zmj, Zmk, Zml, Zmm, Zmn, Zmo, Zmp, Zmq, Zmr, Zms, Zmt, Zmu, Zmv, Zmw, Zmx, Zmy, Zmz, Zna, Znb, Znc, Znd, Zne, Znf, Zng, Znh, Zni, Znj, Znk, Znl, Znm, Znn, Zno, List.lookup_nil, Znp, Znq, Option.map_some, Option.map_none, Option.bind_some, Option.bind_none, List.map_nil, List.map_cons, List.nil_append, List.cons_append, List.append_nil, List.length_cons, List.length_nil, Nat.reduceAdd, Nat.reduceLeDiff, Nat.reduceEqDiff, Nat.reduceBEq, decide_true, decide_false, Bool.not_true, Bool.not_false, Znr, Zns, Znt, Znu, Znv, Znw, Znx, Zny, Znz, Zoa, Zob, Zoc, Zod, Zoe, List.getElem?_cons_zero, List.getElem?_cons_succ, Zof, Zog, Zoh, Zoi, Zoj, Zok, Zol, Zom, Zon, Zoo, Zop, Zoq, Zor, Zos, Zot, Zou, Zov, Zow, Zox, Zoy, setX, Zoz, Zpa, Zpb, Int.ofNat_lt, Int.ofNat_le, Zpc, Zpd, Zpe, Zpf, Zpg, Zph, y3, y4, e0, vec_len]
      refine ⟨.val (.int 0), .val (.str [w.getD 0 0]), ?_, .val, .val⟩
      have : rowB w 1 = rowB w 0 ++ [.int (bdr w 0)] := by
        show rowB w (0 + 1) = _
        unfold rowB
        rw [vec_succ, bdr_1, bdr_0]
      rw [this, bdr_1, bdr_0]
    · have e0 : decide (0 < (i : Int)) = true := decide_eq_true (by omega)
      have wi : w.getD i 0 = w[i] := by rw [List.getD_eq_getElem?_getD, List.getElem?_eq_getElem hi]; rfl
      simp -implicitDefEqProofs -dsimp only [↓Zaa, ↓Zab, ↓Zac, ↓Zad, ↓Zae, ↓Zaf, ↓Zag, ↓Zah, ↓Zai, ↓Zaj, ↓Zak, ↓Zal, ↓Zam, ↓Zan, ↓Zao, ↓Zap, ↓Zaq, ↓Zar, ↓Zas, ↓Zat, ↓Zau, ↓Zav, ↓Zaw, ↓Zax, ↓Zay, ↓Zaz, ↓Zba, ↓Zbb, ↓Zbc, ↓Zbd, ↓Zbe, ↓Zbf, ↓Zbg, ↓Zbh, ↓Zbi, ↓Zbj, ↓Zbk, ↓Zbl, ↓Zbm, ↓Zbn, ↓Zbo, ↓Zbp, ↓Zbq, ↓Zbr, ↓Zbs, ↓Zbt, ↓Zbu, ↓Zbv, ↓Zbw, ↓Zbx, ↓Zby, ↓Zbz, ↓Zca, ↓Zcb, ↓Zcc, ↓Zcd, ↓Zce, ↓Zcf, ↓Zcg, ↓Zch, ↓Zci, ↓Zcj, ↓Zck, ↓Zcl, ↓Zcm, ↓Zcn, ↓Zco, ↓Zcp, ↓Zcq, ↓Zcr, ↓Zcs, ↓Zct, ↓Zcu, ↓Zcv, ↓Zcw, ↓Zcx, ↓Zcy, ↓Zcz, ↓Zda, ↓Zdb, ↓Zdc, ↓Zdd, ↓Zde, ↓Zdf, ↓Zdg, ↓Zdh, ↓Zdi, ↓Zdj, ↓Zdk, ↓Zdl, ↓Zdm, ↓Zdn, ↓Zdo, ↓Zdp, ↓Zdq, ↓Zdr, ↓Zds, ↓Zdt, ↓Zdu, ↓Zdv, ↓Zdw, ↓Zdx, ↓Zdy, ↓Zdz, ↓Zea, ↓Zeb, ↓Zec, ↓Zed, ↓Zee, ↓Zef, ↓Zeg, ↓Zeh, ↓Zei, ↓Zej, ↓Zek, ↓Zel, ↓Zem, ↓Zen, ↓Zeo, ↓Zep, ↓Zeq, ↓Zer, ↓Zes, ↓Zet, ↓Zeu, ↓Zev, ↓Zew, ↓Zex, ↓Zey, ↓Zez, ↓Zfa, ↓Zfb, ↓Zfc, ↓Zfd, ↓Zfe, ↓Zff, ↓Zfg, ↓Zfh, ↓Zfi, ↓Zfj, ↓Zfk, ↓Zfl, ↓Zfm, ↓Zfn, ↓Zfo, ↓Zfp, ↓Zfq, ↓Zfr, ↓Zfs, ↓Zft, ↓Zfu, ↓Zfv, ↓Zfw, ↓Zfx, ↓Zfy, ↓Zfz, ↓Zga, ↓Zgb, ↓Zgc, ↓Zgd, ↓Zge, ↓Zgf, ↓Zgg, ↓Zgh, ↓Zgi, ↓Zgj, ↓Zgk, ↓Zgl, ↓Zgm, ↓Zgn, ↓Zgo, ↓Zgp, ↓Zgq, ↓Zgr, ↓Zgs, ↓Zgt, ↓Zgu, ↓Zgv, ↓Zgw, ↓Zgx, ↓Zgy, ↓Zgz, ↓Zha, ↓Zhb, ↓Zhc, ↓Zhd, ↓Zhe, ↓Zhf, ↓Zhg, ↓Zhh, ↓Zhi, ↓Zhj, ↓Zhk, ↓Zhl, ↓Zhm, ↓Zhn, ↓Zho, ↓Zhp, ↓Zhq, ↓Zhr, ↓Zhs, ↓Zht, ↓Zhu, ↓Zhv, ↓Zhw, ↓Zhx, ↓Zhy, ↓Zhz, ↓Zia, ↓Zib, ↓Zic, ↓Zid, ↓Zie, ↓Zif, ↓Zig, ↓Zih, ↓Zii, ↓Zij, ↓Zik, ↓Zil, ↓Zim, ↓Zin, ↓Zio, ↓Ziq, ↓Zir, ↓Zis, ↓Zit, ↓Ziu, ↓Ziv, ↓Ziw, ↓Zix, ↓Ziy, ↓Ziz, ↓Zja, ↓Zjb, ↓Zjc, ↓Zjd, ↓Zje, ↓Zjf, ↓Zjg, ↓Zjh, ↓Zji, ↓Zjj, ↓Zjk, ↓Zjl, ↓Zjm, ↓Zjn, ↓Zjo, ↓Zjp, ↓Zjq, ↓Zjr, ↓Zjs, ↓Zjt, ↓Zju, ↓Zjv, ↓Zjw, ↓Zjx, ↓Zjy, ↓Zjz, ↓Zka, ↓Zkb, ↓Zkc, ↓Zkd, ↓Zke, ↓Zkf, ↓Zkg, ↓Zkh, ↓Zki, ↓Zkj, ↓Zkk, ↓Zkl, ↓Zkm, ↓Zkn, ↓Zko, ↓Zkp, ↓Zkq, ↓Zkr, ↓Zks, ↓Zkt, ↓Zku, ↓Zkv, ↓Zkw, ↓Zkx, ↓Zky, ↓Zkz, reduceIte, if_true, if_false, Bool.false_eq_true, Bool.and_true, Bool.true_and, Bool.and_false, Bool.false_and, Bool.or_true, Bool.true_or, Bool.or_false, Bool.false_or, Int.cast_ofNat_Int, Zla, Zlb, beq_self_eq_true, Int.reduceBEq, Int.reduceLT, Int.reduceLE, Int.reduceEq, Int.reduceNeg, Nat.reduceLT, Zlc, Zld, Zle, Zlf, Zlg, Zlh, Zli, Zlj, Zlk, Zll, Zlm, Zln, Zlo, Zlp, Zlq, Zlr, Zls, Zlt, Zlu, Zlv, Zlw, Zlx, Zly, Zlz, Zma, Zmb, Zmc, Zmd, Zme, Zmf, Zmg, Zmh, Zmi, Zmj, Zmk, Zml, Zmm, Zmn, Zmo, Zmp, Zmq, Zmr, Zms, Zmt, Zmu, Zmv, Zmw, Zmx, Zmy, Zmz, Zna, Znb, Znc, Znd, Zne, Znf, Zng, Znh, Zni, Znj, Znk, Znl, Znm, Znn, Zno, List.lookup_nil, Znp, Znq, Option.map_some, Option.map_none, Option.bind_some, Option.bind_none, List.map_nil, List.map_cons, List.nil_append, List.cons_append, List.append_nil, List.length_cons, List.length_nil, Nat.reduceAdd, Nat.reduceLeDiff, Nat.reduceEqDiff, Nat.reduceBEq, decide_true, decide_false, Bool.not_true, Bool.not_false, Znr, Zns, Znt, Znu, Znv, Znw, Znx, Zny, Znz, Zoa, Zob, Zoc, Zod, Zoe, List.getElem?_cons_zero, List.getElem?_cons_succ, Zof, Zog, Zoh, Zoi, Zoj, Zok, Zol, Zom, Zon, Zoo, Zop, Zoq, Zor, Zos, Zot, Zou, Zov, Zow, Zox, Zoy, setX, Zoz, Zpa, Zpb, Int.ofNat_lt, Int.ofNat_le, Zpc, Zpd, Zpe, Zpf, Zpg, Zph, y3, y4, e0]
      refine wh_inv (fun e => ∃ k : Nat, e = [.val (.str w), .own false (.l (rowB w i)), .val (.int k), .val (.int i), .val (.str [w.getD i 0])] ∧ Brd w i k ∧ ∀ j, Brd w i j → k < j → w[j]? ≠ w[i]?) (fun e => match e with | [_, _, .val (.int k), _, _] => k.toNat | _ => 0) ?_ ?_ ?_
      · obtain ⟨a, b⟩ := bdr_spec (w := w) (m := i) (by omega)
        exact ⟨bdr w i, rfl, a, fun j hj hlt => by have := b j hj; omega⟩
      · show ((bdr w i : Nat) : Int).toNat < fuelE _
        unfold fuelE sizV sizD
        simp
        omega
      · rintro e ⟨k, rfl, hb, hm⟩
        have hk := hb.1
        have hkw : k < w.length := by omega
        have eq := ch_eq hkw hi
        have wi2 : w[i]? = some w[i] := List.getElem?_eq_getElem hi
        have wk2 : w[k]? = some w[k] := List.getElem?_eq_getElem hkw
        have grow : w[k]? = w[i]? → bdr w (i + 1) = k + 1 := fun e => bdr_eq (Brd.succ.mpr ⟨hb, e⟩) fun j hj => by
          match j with
          | 0 => omega
          | j + 1 =>
            obtain ⟨a, b⟩ := Brd.succ.mp hj
            have : ¬ k < j := fun h => hm j a h b
            omega
        have key : w[k]? = w[i]? → ∃ x3 x4, [SV.val (.str w), .own false (.l (rowB w i ++ [.int ((k : Int) + 1)])), .val (.int ((k : Int) + 1)), .val (.int i), .val (.str [w.getD i 0])] = [.val (.str w), .own false (.l (rowB w (i + 1))), .val (.int (bdr w (i + 1))), x3, x4] ∧ Fr1 x3 ∧ Fr1 x4 := fun e => by
          have g := grow e
          refine ⟨.val (.int i), .val (.str [w.getD i 0]), ?_, .val, .val⟩
          have : rowB w (i + 1) = rowB w i ++ [.int ((k : Int) + 1)] := by
            unfold rowB
            rw [vec_succ, g]
            rfl
          rw [this, g]
          rfl
        by_cases hc : w[k]? = w[i]?
        · rw [decide_eq_true hc] at eq
          rw [← wi] at eq
          by_cases hk0 : k = 0
          · subst hk0
            have e1 : decide (0 < ((0 : Nat) : Int)) = false := rfl
            have at0 : atI w 0 = some w[0] := (Zlv (k := 0)).trans wk2
            simp -implicitDefEqProofs -dsimp only [↓Zaa, ↓Zab, ↓Zac, ↓Zad, ↓Zae, ↓Zaf, ↓Zag, ↓Zah, ↓Zai, ↓Zaj, ↓Zak, ↓Zal, ↓Zam, ↓Zan, ↓Zao, ↓Zap, ↓Zaq, ↓Zar, ↓Zas, ↓Zat, ↓Zau, ↓Zav, ↓Zaw, ↓Zax, ↓Zay, ↓Zaz, ↓Zba, ↓Zbb, ↓Zbc, ↓Zbd, ↓Zbe, ↓Zbf, ↓Zbg, ↓Zbh, ↓Zbi, ↓Zbj, ↓Zbk, ↓Zbl, ↓Zbm, ↓Zbn, ↓Zbo, ↓Zbp, ↓Zbq, ↓Zbr, ↓Zbs, ↓Zbt, ↓Zbu, ↓Zbv, ↓Zbw, ↓Zbx, ↓Zby, ↓Zbz, ↓Zca, ↓Zcb, ↓Zcc, ↓Zcd, ↓Zce, ↓Zcf, ↓Zcg, ↓Zch, ↓Zci, ↓Zcj, ↓Zck, ↓Zcl, ↓Zcm, ↓Zcn, ↓Zco, ↓Zcp, ↓Zcq, ↓Zcr, ↓Zcs, ↓Zct, ↓Zcu, ↓Zcv, ↓Zcw, ↓Zcx, ↓Zcy, ↓Zcz, ↓Zda, ↓Zdb, ↓Zdc, ↓Zdd, ↓Zde, ↓Zdf, ↓Zdg, ↓Zdh, ↓Zdi, ↓Zdj, ↓Zdk, ↓Zdl, ↓Zdm, ↓Zdn, ↓Zdo, ↓Zdp, ↓Zdq, ↓Zdr, ↓Zds, ↓Zdt, ↓Zdu, ↓Zdv, ↓Zdw, ↓Zdx, ↓Zdy, ↓Zdz, ↓Zea, ↓Zeb, ↓Zec, ↓Zed, ↓Zee, ↓Zef, ↓Zeg, ↓Zeh, ↓Zei, ↓Zej, ↓Zek, ↓Zel, ↓Zem, ↓Zen, ↓Zeo, ↓Zep, ↓Zeq, ↓Zer, ↓Zes, ↓Zet, ↓Zeu, ↓Zev, ↓Zew, ↓Zex, ↓Zey, ↓Zez, ↓Zfa, ↓Zfb, ↓Zfc, ↓Zfd, ↓Zfe, ↓Zff, ↓Zfg, ↓Zfh, ↓Zfi, ↓Zfj, ↓Zfk, ↓Zfl, ↓Zfm, ↓Zfn, ↓Zfo, ↓Zfp, ↓Zfq, ↓Zfr, ↓Zfs, ↓Zft, ↓Zfu, ↓Zfv, ↓Zfw, ↓Zfx, ↓Zfy, ↓Zfz, ↓Zga, ↓Zgb, ↓Zgc, ↓Zgd, ↓Zge, ↓Zgf, ↓Zgg, ↓Zgh, ↓Zgi, ↓Zgj, ↓Zgk, ↓Zgl, ↓Zgm, ↓Zgn, ↓Zgo, ↓Zgp, ↓Zgq, ↓Zgr, ↓Zgs, ↓Zgt, ↓Zgu, ↓Zgv, ↓Zgw, ↓Zgx, ↓Zgy, ↓Zgz, ↓Zha, ↓Zhb, ↓Zhc, ↓Zhd, ↓Zhe, ↓Zhf, ↓Zhg, ↓Zhh, ↓Zhi, ↓Zhj, ↓Zhk, ↓Zhl, ↓Zhm, ↓Zhn, ↓Zho, ↓Zhp, ↓Zhq, ↓Zhr, ↓Zhs, ↓Zht, ↓Zhu, ↓Zhv, ↓Zhw, ↓Zhx, ↓Zhy, ↓Zhz, ↓Zia, ↓Zib, ↓Zic, ↓Zid, ↓Zie, ↓Zif, ↓Zig, ↓Zih, ↓Zii, ↓Zij, ↓Zik, ↓Zil, ↓Zim, ↓Zin, ↓Zio, ↓Ziq, ↓Zir, ↓Zis, ↓Zit, ↓Ziu, ↓Ziv, ↓Ziw, ↓Zix, ↓Ziy, ↓Ziz, ↓Zja, ↓Zjb, ↓Zjc, ↓Zjd, ↓Zje, ↓Zjf, ↓Zjg, ↓Zjh, ↓Zji, ↓Zjj, ↓Zjk, ↓Zjl, ↓Zjm, ↓Zjn, ↓Zjo, ↓Zjp, ↓Zjq, ↓Zjr, ↓Zjs, ↓Zjt, ↓Zju, ↓Zjv, ↓Zjw, ↓Zjx, ↓Zjy, ↓Zjz, ↓Zka, ↓Zkb, ↓Zkc, ↓Zkd, ↓Zke, ↓Zkf, ↓Zkg, ↓Zkh, ↓Zki, ↓Zkj, ↓Zkk, ↓Zkl, ↓Zkm, ↓Zkn, ↓Zko, ↓Zkp, ↓Zkq, ↓Zkr, ↓Zks, ↓Zkt, ↓Zku, ↓Zkv, ↓Zkw, ↓Zkx, ↓Zky, ↓Zkz, reduceIte, if_true, if_false, Bool.false_eq_true, Bool.and_true, Bool.true_and, Bool.and_false, Bool.false_and, Bool.or_true, Bool.true_or, Bool.or_false, Bool.false_or, Int.cast_ofNat_Int, Zla, Zlb, beq_self_eq_true, Int.reduceBEq, Int.reduceLT, Int.reduceLE, Int.reduceEq, Int.reduceNeg, Nat.reduceLT, Zlc, Zld, Zle, Zlf, Zlg, Zlh, Zli, Zlj, Zlk, Zll, Zlm, Zln, Zlo, Zlp, Zlq, Zlr, Zls, Zlt, Zlu, Zlv, Zlw, Zlx, Zly, Zlz, Zma, Zmb, Zmc, Zmd, Zme, Zmf, Zmg, Zmh, Zmi, Zmj, Zmk, Zml, Zmm, Zmn, Zmo, Zmp, Zmq, Zmr, Zms, Zmt, Zmu, Zmv, Zmw, Zmx, Zmy, Zmz, Zna, Znb, Znc, Znd, Zne, Znf, Zng, Znh, Zni, Znj, Znk, Znl, Znm, Znn, Zno, List.lookup_nil, Znp, Znq, Option.map_some, Option.map_none, Option.bind_some, Option.bind_none, List.map_nil, List.map_cons, List.nil_append, List.cons_append, List.append_nil, List.length_cons, List.length_nil, Nat.reduceAdd, Nat.reduceLeDiff, Nat.reduceEqDiff, Nat.reduceBEq, decide_true, decide_false, Bool.not_true, Bool.not_false, Znr, Zns, Znt, Znu, Znv, Znw, Znx, Zny, Znz, Zoa, Zob, Zoc, Zod, Zoe, List.getElem?_cons_zero, List.getElem?_cons_succ, Zof, Zog, Zoh, Zoi, Zoj, Zok, Zol, Zom, Zon, Zoo, Zop, Zoq, Zor, Zos, Zot, Zou, Zov, Zow, Zox, Zoy, setX, Zoz, Zpa, Zpb, Int.ofNat_lt, Int.ofNat_le, Zpc, Zpd, Zpe, Zpf, Zpg, Zph, e1, at0, ixD_s hl2, wk2, eq, vec_len, hq]
            exact key hc
          · have e1 : decide (0 < (k : Int)) = true := decide_eq_true (by omega)
            simp -implicitDefEqProofs -dsimp only [↓Zaa, ↓Zab, ↓Zac, ↓Zad, ↓Zae, ↓Zaf, ↓Zag, ↓Zah, ↓Zai, ↓Zaj, ↓Zak, ↓Zal, ↓Zam, ↓Zan, ↓Zao, ↓Zap, ↓Zaq, ↓Zar, ↓Zas, ↓Zat, ↓Zau, ↓Zav, ↓Zaw, ↓Zax, ↓Zay, ↓Zaz, ↓Zba, ↓Zbb, ↓Zbc, ↓Zbd, ↓Zbe, ↓Zbf, ↓Zbg, ↓Zbh, ↓Zbi, ↓Zbj, ↓Zbk, ↓Zbl, ↓Zbm, ↓Zbn, ↓Zbo, ↓Zbp, ↓Zbq, ↓Zbr, ↓Zbs, ↓Zbt, ↓Zbu, ↓Zbv, ↓Zbw, ↓Zbx, ↓Zby, ↓Zbz, ↓Zca, ↓Zcb, ↓Zcc, ↓Zcd, ↓Zce, ↓Zcf, ↓Zcg, ↓Zch, ↓Zci, ↓Zcj, ↓Zck, ↓Zcl, ↓Zcm, ↓Zcn, ↓Zco, ↓Zcp, ↓Zcq, ↓Zcr, ↓Zcs, ↓Zct, ↓Zcu, ↓Zcv, ↓Zcw, ↓Zcx, ↓Zcy, ↓Zcz, ↓Zda, ↓Zdb, ↓Zdc, ↓Zdd, ↓Zde, ↓Zdf, ↓Zdg, ↓Zdh, ↓Zdi, ↓Zdj, ↓Zdk, ↓Zdl, ↓Zdm, ↓Zdn, ↓Zdo, ↓Zdp, ↓Zdq, ↓Zdr, ↓Zds, ↓Zdt, ↓Zdu, ↓Zdv, ↓Zdw, ↓Zdx, ↓Zdy, ↓Zdz, ↓Zea, ↓Zeb, ↓Zec, ↓Zed, ↓Zee, ↓Zef, ↓Zeg, ↓Zeh, ↓Zei, ↓Zej, ↓Zek, ↓Zel, ↓Zem, ↓Zen, ↓Zeo, ↓Zep, ↓Zeq, ↓Zer, ↓Zes, ↓Zet, ↓Zeu, ↓Zev, ↓Zew, ↓Zex, ↓Zey, ↓Zez, ↓Zfa, ↓Zfb, ↓Zfc, ↓Zfd, ↓Zfe, ↓Zff, ↓Zfg, ↓Zfh, ↓Zfi, ↓Zfj, ↓Zfk, ↓Zfl, ↓Zfm, ↓Zfn, ↓Zfo, ↓Zfp, ↓Zfq, ↓Zfr, ↓Zfs, ↓Zft, ↓Zfu, ↓Zfv, ↓Zfw, ↓Zfx, ↓Zfy, ↓Zfz, ↓Zga, ↓Zgb, ↓Zgc, ↓Zgd, ↓Zge, ↓Zgf, ↓Zgg, ↓Zgh, ↓Zgi, ↓Zgj, ↓Zgk, ↓Zgl, ↓Zgm, ↓Zgn, ↓Zgo, ↓Zgp, ↓Zgq, ↓Zgr, ↓Zgs, ↓Zgt, ↓Zgu, ↓Zgv, ↓Zgw, ↓Zgx, ↓Zgy, ↓Zgz, ↓Zha, ↓Zhb, ↓Zhc, ↓Zhd, ↓Zhe, ↓Zhf, ↓Zhg, ↓Zhh, ↓Zhi, ↓Zhj, ↓Zhk, ↓Zhl, ↓Zhm, ↓Zhn, ↓Zho, ↓Zhp, ↓Zhq, ↓Zhr, ↓Zhs, ↓Zht, ↓Zhu, ↓Zhv, ↓Zhw, ↓Zhx, ↓Zhy, ↓Zhz, ↓Zia, ↓Zib, ↓Zic, ↓Zid, ↓Zie, ↓Zif, ↓Zig, ↓Zih, ↓Zii, ↓Zij, ↓Zik, ↓Zil, ↓Zim, ↓Zin, ↓Zio, ↓Ziq, ↓Zir, ↓Zis, ↓Zit, ↓Ziu, ↓Ziv, ↓Ziw, ↓Zix, ↓Ziy, ↓Ziz, ↓Zja, ↓Zjb, ↓Zjc, ↓Zjd, ↓Zje, ↓Zjf, ↓Zjg, ↓Zjh, ↓Zji, ↓Zjj, ↓Zjk, ↓Zjl, ↓Zjm, ↓Zjn, ↓Zjo, ↓Zjp, ↓Zjq, ↓Zjr, ↓Zjs, ↓Zjt, ↓Zju, ↓Zjv, ↓Zjw, ↓Zjx, ↓Zjy, ↓Zjz, ↓Zka, ↓Zkb, ↓Zkc, ↓Zkd, ↓Zke, ↓Zkf, ↓Zkg, ↓Zkh, ↓Zki, ↓Zkj, ↓Zkk, ↓Zkl, ↓Zkm, ↓Zkn, ↓Zko, ↓Zkp, ↓Zkq, ↓Zkr, ↓Zks, ↓Zkt, ↓Zku, ↓Zkv, ↓Zkw, ↓Zkx, ↓Zky, ↓Zkz, reduceIte, if_true, if_false, Bool.false_eq_true, Bool.and_true, Bool.true_and, Bool.and_false, Bool.false_and, Bool.or_true, Bool.true_or, Bool.or_false, Bool.false_or, Int.cast_ofNat_Int, Zla, Zlb, beq_self_eq_true, Int.reduceBEq, Int.reduceLT, Int.reduceLE, Int.reduceEq, Int.reduceNeg, Nat.reduceLT, Zlc, Zld, Zle, Zlf, Zlg, Zlh, Zli, Zlj, Zlk, Zll, Zlm, Zln, Zlo, Zlp, Zlq, Zlr, Zls, Zlt, Zlu, Zlv, Zlw, Zlx, Zly, Zlz, Zma, Zmb, Zmc, Zmd, Zme, Zmf, Zmg, Zmh, Zmi, Zmj, Zmk, Zml, Zmm, Zmn, Zmo, Zmp, Zmq, Zmr, Zms, Zmt, Zmu, Zmv, Zmw, Zmx, Zmy, Zmz, Zna, Znb, Znc, Znd, Zne, Znf, Zng, Znh, Zni, Znj, Znk, Znl, Znm, Znn, Zno, List.lookup_nil, Znp, Znq, Option.map_some, Option.map_none, Option.bind_some, Option.bind_none, List.map_nil, List.map_cons, List.nil_append, List.cons_append, List.append_nil, List.length_cons, List.length_nil, Nat.reduceAdd, Nat.reduceLeDiff, Nat.reduceEqDiff, Nat.reduceBEq, decide_true, decide_false, Bool.not_true, Bool.not_false, Znr, Zns, Znt, Znu, Znv, Znw, Znx, Zny, Znz, Zoa, Zob, Zoc, Zod, Zoe, List.getElem?_cons_zero, List.getElem?_cons_succ, Zof, Zog, Zoh, Zoi, Zoj, Zok, Zol, Zom, Zon, Zoo, Zop, Zoq, Zor, Zos, Zot, Zou, Zov, Zow, Zox, Zoy, setX, Zoz, Zpa, Zpb, Int.ofNat_lt, Int.ofNat_le, Zpc, Zpd, Zpe, Zpf, Zpg, Zph, e1, ixD_s hl2, wk2, eq, vec_len, hq]
            exact key hc
        · rw [decide_eq_false hc] at eq
          rw [← wi] at eq
          by_cases hk0 : k = 0
          · subst hk0
            have e1 : decide (0 < ((0 : Nat) : Int)) = false := rfl
            have at0 : atI w 0 = some w[0] := (Zlv (k := 0)).trans wk2
            have z : bdr w (i + 1) = 0 := bdr_eq (Brd.zero (by omega)) fun j hj => by
              match j with
              | 0 => omega
              | j + 1 =>
                obtain ⟨a, b⟩ := Brd.succ.mp hj
                by_cases hj0 : j = 0
                · subst hj0; exact (hc b).elim
                · exact (hm j a (by omega) b).elim
            simp -implicitDefEqProofs -dsimp only [↓Zaa, ↓Zab, ↓Zac, ↓Zad, ↓Zae, ↓Zaf, ↓Zag, ↓Zah, ↓Zai, ↓Zaj, ↓Zak, ↓Zal, ↓Zam, ↓Zan, ↓Zao, ↓Zap, ↓Zaq, ↓Zar, ↓Zas, ↓Zat, ↓Zau, ↓Zav, ↓Zaw, ↓Zax, ↓Zay, ↓Zaz, ↓Zba, ↓Zbb, ↓Zbc, ↓Zbd, ↓Zbe, ↓Zbf, ↓Zbg, ↓Zbh, ↓Zbi, ↓Zbj, ↓Zbk, ↓Zbl, ↓Zbm, ↓Zbn, ↓Zbo, ↓Zbp, ↓Zbq, ↓Zbr, ↓Zbs, ↓Zbt, ↓Zbu, ↓Zbv, ↓Zbw, ↓Zbx, ↓Zby, ↓Zbz, ↓Zca, ↓Zcb, ↓Zcc, ↓Zcd, ↓Zce, ↓Zcf, ↓Zcg, ↓Zch, ↓Zci, ↓Zcj, ↓Zck, ↓Zcl, ↓Zcm, ↓Zcn, ↓Zco, ↓Zcp, ↓Zcq, ↓Zcr, ↓Zcs, ↓Zct, ↓Zcu, ↓Zcv, ↓Zcw, ↓Zcx, ↓Zcy, ↓Zcz, ↓Zda, ↓Zdb, ↓Zdc, ↓Zdd, ↓Zde, ↓Zdf, ↓Zdg, ↓Zdh, ↓Zdi, ↓Zdj, ↓Zdk, ↓Zdl, ↓Zdm, ↓Zdn, ↓Zdo, ↓Zdp, ↓Zdq, ↓Zdr, ↓Zds, ↓Zdt, ↓Zdu, ↓Zdv, ↓Zdw, ↓Zdx, ↓Zdy, ↓Zdz, ↓Zea, ↓Zeb, ↓Zec, ↓Zed, ↓Zee, ↓Zef, ↓Zeg, ↓Zeh, ↓Zei, ↓Zej, ↓Zek, ↓Zel, ↓Zem, ↓Zen, ↓Zeo, ↓Zep, ↓Zeq, ↓Zer, ↓Zes, ↓Zet, ↓Zeu, ↓Zev, ↓Zew, ↓Zex, ↓Zey, ↓Zez, ↓Zfa, ↓Zfb, ↓Zfc, ↓Zfd, ↓Zfe, ↓Zff, ↓Zfg, ↓Zfh, ↓Zfi, ↓Zfj, ↓Zfk, ↓Zfl, ↓Zfm, ↓Zfn, ↓Zfo, ↓Zfp, ↓Zfq, ↓Zfr, ↓Zfs, ↓Zft, ↓Zfu, ↓Zfv, ↓Zfw, ↓Zfx, ↓Zfy, ↓Zfz, ↓Zga, ↓Zgb, ↓Zgc, ↓Zgd, ↓Zge, ↓Zgf, ↓Zgg, ↓Zgh, ↓Zgi, ↓Zgj, ↓Zgk, ↓Zgl, ↓Zgm, ↓Zgn, ↓Zgo, ↓Zgp, ↓Zgq, ↓Zgr, ↓Zgs, ↓Zgt, ↓Zgu, ↓Zgv, ↓Zgw, ↓Zgx, ↓Zgy, ↓Zgz, ↓Zha, ↓Zhb, ↓Zhc, ↓Zhd, ↓Zhe, ↓Zhf, ↓Zhg, ↓Zhh, ↓Zhi, ↓Zhj, ↓Zhk, ↓Zhl, ↓Zhm, ↓Zhn, ↓Zho, ↓Zhp, ↓Zhq, ↓Zhr, ↓Zhs, ↓Zht, ↓Zhu, ↓Zhv, ↓Zhw, ↓Zhx, ↓Zhy, ↓Zhz, ↓Zia, ↓Zib, ↓Zic, ↓Zid, ↓Zie, ↓Zif, ↓Zig, ↓Zih, ↓Zii, ↓Zij, ↓Zik, ↓Zil, ↓Zim, ↓Zin, ↓Zio, ↓Ziq, ↓Zir, ↓Zis, ↓Zit, ↓Ziu, ↓Ziv, ↓Ziw, ↓Zix, ↓Ziy, ↓Ziz, ↓Zja, ↓Zjb, ↓Zjc, ↓Zjd, ↓Zje, ↓Zjf, ↓Zjg, ↓Zjh, ↓Zji, ↓Zjj, ↓Zjk, ↓Zjl, ↓Zjm, ↓Zjn, ↓Zjo, ↓Zjp, ↓Zjq, ↓Zjr, ↓Zjs, ↓Zjt, ↓Zju, ↓Zjv, ↓Zjw, ↓Zjx, ↓Zjy, ↓Zjz, ↓Zka, ↓Zkb, ↓Zkc, ↓Zkd, ↓Zke, ↓Zkf, ↓Zkg, ↓Zkh, ↓Zki, ↓Zkj, ↓Zkk, ↓Zkl, ↓Zkm, ↓Zkn, ↓Zko, ↓Zkp, ↓Zkq, ↓Zkr, ↓Zks, ↓Zkt, ↓Zku, ↓Zkv, ↓Zkw, ↓Zkx, ↓Zky, ↓Zkz, reduceIte, if_true, if_false, Bool.false_eq_true, Bool.and_true, Bool.true_and, Bool.and_false, Bool.false_and, Bool.or_true, Bool.true_or, Bool.or_false, Bool.false_or, Int.cast_ofNat_Int, Zla, Zlb, beq_self_eq_true, Int.reduceBEq, Int.reduceLT, Int.reduceLE, Int.reduceEq, Int.reduceNeg, Nat.reduceLT, Zlc, Zld, Zle, Zlf, Zlg, Zlh, Zli, Zlj, Zlk, Zll, Zlm, Zln, Zlo, Zlp, Zlq, Zlr, Zls, Zlt, Zlu, Zlv, Zlw, Zlx, Zly, Zlz, Zma, Zmb, Zmc, Zmd, Zme, Zmf, Zmg, Zmh, Zmi, Zmj, Zmk, Zml, Zmm, Zmn, Zmo, Zmp, Zmq, Zmr, Zms, Zmt, Zmu, Zmv, Zmw, Zmx, Zmy, Zmz, Zna, Znb, Znc, Znd, Zne, Znf, Zng, Znh, Zni, Znj, Znk, Znl, Znm, Znn, Zno, List.lookup_nil, Znp, Znq, Option.map_some, Option.map_none, Option.bind_some, Option.bind_none, List.map_nil, List.map_cons, List.nil_append, List.cons_append, List.append_nil, List.length_cons, List.length_nil, Nat.reduceAdd, Nat.reduceLeDiff, Nat.reduceEqDiff, Nat.reduceBEq, decide_true, decide_false, Bool.not_true, Bool.not_false, Znr, Zns, Znt, Znu, Znv, Znw, Znx, Zny, Znz, Zoa, Zob, Zoc, Zod, Zoe, List.getElem?_cons_zero, List.getElem?_cons_succ, Zof, Zog, Zoh, Zoi, Zoj, Zok, Zol, Zom, Zon, Zoo, Zop, Zoq, Zor, Zos, Zot, Zou, Zov, Zow, Zox, Zoy, setX, Zoz, Zpa, Zpb, Int.ofNat_lt, Int.ofNat_le, Zpc, Zpd, Zpe, Zpf, Zpg, Zph, e1, at0, ixD_s hl2, wk2, eq, vec_len, hq]
            refine ⟨.val (.int i), .val (.str [w.getD i 0]), ?_, .val, .val⟩
            have : rowB w (i + 1) = rowB w i ++ [.int ((0 : Nat) : Int)] := by
              unfold rowB
              rw [vec_succ, z]
            rw [this, z]
            rfl
          · have e1 : decide (0 < (k : Int)) = true := decide_eq_true (by omega)
            have ek : (k : Int) - 1 = ((k - 1 : Nat) : Int) := by omega
            have hk1 : k - 1 < i := by omega
            obtain ⟨b1, b2⟩ := bdr_spec (w := w) (m := k) (by omega)
            have e2 : bdr w (k - 1 + 1) = bdr w k := by rw [show k - 1 + 1 = k by omega]
            simp -implicitDefEqProofs -dsimp only [↓Zaa, ↓Zab, ↓Zac, ↓Zad, ↓Zae, ↓Zaf, ↓Zag, ↓Zah, ↓Zai, ↓Zaj, ↓Zak, ↓Zal, ↓Zam, ↓Zan, ↓Zao, ↓Zap, ↓Zaq, ↓Zar, ↓Zas, ↓Zat, ↓Zau, ↓Zav, ↓Zaw, ↓Zax, ↓Zay, ↓Zaz, ↓Zba, ↓Zbb, ↓Zbc, ↓Zbd, ↓Zbe, ↓Zbf, ↓Zbg, ↓Zbh, ↓Zbi, ↓Zbj, ↓Zbk, ↓Zbl, ↓Zbm, ↓Zbn, ↓Zbo, ↓Zbp, ↓Zbq, ↓Zbr, ↓Zbs, ↓Zbt, ↓Zbu, ↓Zbv, ↓Zbw, ↓Zbx, ↓Zby, ↓Zbz, ↓Zca, ↓Zcb, ↓Zcc, ↓Zcd, ↓Zce, ↓Zcf, ↓Zcg, ↓Zch, ↓Zci, ↓Zcj, ↓Zck, ↓Zcl, ↓Zcm, ↓Zcn, ↓Zco, ↓Zcp, ↓Zcq, ↓Zcr, ↓Zcs, ↓Zct, ↓Zcu, ↓Zcv, ↓Zcw, ↓Zcx, ↓Zcy, ↓Zcz, ↓Zda, ↓Zdb, ↓Zdc, ↓Zdd, ↓Zde, ↓Zdf, ↓Zdg, ↓Zdh, ↓Zdi, ↓Zdj, ↓Zdk, ↓Zdl, ↓Zdm, ↓Zdn, ↓Zdo, ↓Zdp, ↓Zdq, ↓Zdr, ↓Zds, ↓Zdt, ↓Zdu, ↓Zdv, ↓Zdw, ↓Zdx, ↓Zdy, ↓Zdz, ↓Zea, ↓Zeb, ↓Zec, ↓Zed, ↓Zee, ↓Zef, ↓Zeg, ↓Zeh, ↓Zei, ↓Zej, ↓Zek, ↓Zel, ↓Zem, ↓Zen, ↓Zeo, ↓Zep, ↓Zeq, ↓Zer, ↓Zes, ↓Zet, ↓Zeu, ↓Zev, ↓Zew, ↓Zex, ↓Zey, ↓Zez, ↓Zfa, ↓Zfb, ↓Zfc, ↓Zfd, ↓Zfe, ↓Zff, ↓Zfg, ↓Zfh, ↓Zfi, ↓Zfj, ↓Zfk, ↓Zfl, ↓Zfm, ↓Zfn, ↓Zfo, ↓Zfp, ↓Zfq, ↓Zfr, ↓Zfs, ↓Zft, ↓Zfu, ↓Zfv, ↓Zfw, ↓Zfx, ↓Zfy, ↓Zfz, ↓Zga, ↓Zgb, ↓Zgc, ↓Zgd, ↓Zge, ↓Zgf, ↓Zgg, ↓Zgh, ↓Zgi, ↓Zgj, ↓Zgk, ↓Zgl, ↓Zgm, ↓Zgn, ↓Zgo, ↓Zgp, ↓Zgq, ↓Zgr, ↓Zgs, ↓Zgt, ↓Zgu, ↓Zgv, ↓Zgw, ↓Zgx, ↓Zgy, ↓Zgz, ↓Zha, ↓Zhb, ↓Zhc, ↓Zhd, ↓Zhe, ↓Zhf, ↓Zhg, ↓Zhh, ↓Zhi, ↓Zhj, ↓Zhk, ↓Zhl, ↓Zhm, ↓Zhn, ↓Zho, ↓Zhp, ↓Zhq, ↓Zhr, ↓Zhs, ↓Zht, ↓Zhu, ↓Zhv, ↓Zhw, ↓Zhx, ↓Zhy, ↓Zhz, ↓Zia, ↓Zib, ↓Zic, ↓Zid, ↓Zie, ↓Zif, ↓Zig, ↓Zih, ↓Zii, ↓Zij, ↓Zik, ↓Zil, ↓Zim, ↓Zin, ↓Zio, ↓Ziq, ↓Zir, ↓Zis, ↓Zit, ↓Ziu, ↓Ziv, ↓Ziw, ↓Zix, ↓Ziy, ↓Ziz, ↓Zja, ↓Zjb, ↓Zjc, ↓Zjd, ↓Zje, ↓Zjf, ↓Zjg, ↓Zjh, ↓Zji, ↓Zjj, ↓Zjk, ↓Zjl, ↓Zjm, ↓Zjn, ↓Zjo, ↓Zjp, ↓Zjq, ↓Zjr, ↓Zjs, ↓Zjt, ↓Zju, ↓Zjv, ↓Zjw, ↓Zjx, ↓Zjy, ↓Zjz, ↓Zka, ↓Zkb, ↓Zkc, ↓Zkd, ↓Zke, ↓Zkf, ↓Zkg, ↓Zkh, ↓Zki, ↓Zkj, ↓Zkk, ↓Zkl, ↓Zkm, ↓Zkn, ↓Zko, ↓Zkp, ↓Zkq, ↓Zkr, ↓Zks, ↓Zkt, ↓Zku, ↓Zkv, ↓Zkw, ↓Zkx, ↓Zky, ↓Zkz, reduceIte, if_true, if_false, Bool.false_eq_true, Bool.and_true, Bool.true_and, Bool.and_false, Bool.false_and, Bool.or_true, Bool.true_or, Bool.or_false, Bool.false_or, Int.cast_ofNat_Int, Zla, Zlb, beq_self_eq_true, Int.reduceBEq, Int.reduceLT, Int.reduceLE, Int.reduceEq, Int.reduceNeg, Nat.reduceLT, Zlc, Zld, Zle, Zlf, Zlg, Zlh, Zli, Zlj, Zlk, Zll, Zlm, Zln, Zlo, Zlp, Zlq, Zlr, Zls, Zlt, Zlu, Zlv, Zlw, Zlx, Zly, Zlz, Zma, Zmb, Zmc, Zmd, Zme, Zmf, Zmg, Zmh, Zmi, Zmj, Zmk, Zml, Zmm, Zmn, Zmo, Zmp, Zmq, Zmr, Zms, Zmt, Zmu, Zmv, Zmw, Zmx, Zmy, Zmz, Zna, Znb, Znc, Znd, Zne, Znf, Zng, Znh, Zni, Znj, Znk, Znl, Znm, Znn, Zno, List.lookup_nil, Znp, Znq, Option.map_some, Option.map_none, Option.bind_some, Option.bind_none, List.map_nil, List.map_cons, List.nil_append, List.cons_append, List.append_nil, List.length_cons, List.length_nil, Nat.reduceAdd, Nat.reduceLeDiff, Nat.reduceEqDiff, Nat.reduceBEq, decide_true, decide_false, Bool.not_true, Bool.not_false, Znr, Zns, Znt, Znu, Znv, Znw, Znx, Zny, Znz, Zoa, Zob, Zoc, Zod, Zoe, List.getElem?_cons_zero, List.getElem?_cons_succ, Zof, Zog, Zoh, Zoi, Zoj, Zok, Zol, Zom, Zon, Zoo, Zop, Zoq, Zor, Zos, Zot, Zou, Zov, Zow, Zox, Zoy, setX, Zoz, Zpa, Zpb, Int.ofNat_lt, Int.ofNat_le, Zpc, Zpd, Zpe, Zpf, Zpg, Zph, e1, ixD_s hl2, wk2, eq, ek, vec_atI hk1, e2]
            refine ⟨⟨bdr w k, rfl, hb.trans b1, fun j hj hlt => ?_⟩, ?_⟩
            · by_cases q : k < j
              · exact hm j hj q
              · by_cases q2 : j = k
                · rw [q2]; exact hc
                · have := b2 j (hb.inner hj (by omega))
                  omega
            · show ((bdr w k : Nat) : Int).toNat < ((k : Nat) : Int).toNat
              have := b1.1
              omega
  · rintro e ⟨x3, x4, rfl, y3, y4⟩
    simp -implicitDefEqProofs -dsimp only [↓Zaa, ↓Zab, ↓Zac, ↓Zad, ↓Zae, ↓Zaf, ↓Zag, ↓Zah, ↓Zai, ↓Zaj, ↓Zak, ↓Zal, ↓Zam, ↓Zan, ↓Zao, ↓Zap, ↓Zaq, ↓Zar, ↓Zas, ↓Zat, ↓Zau, ↓Zav, ↓Zaw, ↓Zax, ↓Zay, ↓Zaz, ↓Zba, ↓Zbb, ↓Zbc, ↓Zbd, ↓Zbe, ↓Zbf, ↓Zbg, ↓Zbh, ↓Zbi, ↓Zbj, ↓Zbk, ↓Zbl, ↓Zbm, ↓Zbn, ↓Zbo, ↓Zbp, ↓Zbq, ↓Zbr, ↓Zbs, ↓Zbt, ↓Zbu, ↓Zbv, ↓Zbw, ↓Zbx, ↓Zby, ↓Zbz, ↓Zca, ↓Zcb, ↓Zcc, ↓Zcd, ↓Zce, ↓Zcf, ↓Zcg, ↓Zch, ↓Zci, ↓Zcj, ↓Zck, ↓Zcl, ↓Zcm, ↓Zcn, ↓Zco, ↓Zcp, ↓Zcq, ↓Zcr, ↓Zcs, ↓Zct, ↓Zcu, ↓Zcv, ↓Zcw, ↓Zcx, ↓Zcy, ↓Zcz, ↓Zda, ↓Zdb, ↓Zdc, ↓Zdd, ↓Zde, ↓Zdf, ↓Zdg, ↓Zdh, ↓Zdi, ↓Zdj, ↓Zdk, ↓Zdl, ↓Zdm, ↓Zdn, ↓Zdo, ↓Zdp, ↓Zdq, ↓Zdr, ↓Zds, ↓Zdt, ↓Zdu, ↓Zdv, ↓Zdw, ↓Zdx, ↓Zdy, ↓Zdz, ↓Zea, ↓Zeb, ↓Zec, ↓Zed, ↓Zee, ↓Zef, ↓Zeg, ↓Zeh, ↓Zei, ↓Zej, ↓Zek, ↓Zel, ↓Zem, ↓Zen, ↓Zeo, ↓Zep, ↓Zeq, ↓Zer, ↓Zes, ↓Zet, ↓Zeu, ↓Zev, ↓Zew, ↓Zex, ↓Zey, ↓Zez, ↓Zfa, ↓Zfb, ↓Zfc, ↓Zfd, ↓Zfe, ↓Zff, ↓Zfg, ↓Zfh, ↓Zfi, ↓Zfj, ↓Zfk, ↓Zfl, ↓Zfm, ↓Zfn, ↓Zfo, ↓Zfp, ↓Zfq, ↓Zfr, ↓Zfs, ↓Zft, ↓Zfu, ↓Zfv, ↓Zfw, ↓Zfx, ↓Zfy, ↓Zfz, ↓Zga, ↓Zgb, ↓Zgc, ↓Zgd, ↓Zge, ↓Zgf, ↓Zgg, ↓Zgh, ↓Zgi, ↓Zgj, ↓Zgk, ↓Zgl, ↓Zgm, ↓Zgn, ↓Zgo, ↓Zgp, ↓Zgq, ↓Zgr, ↓Zgs, ↓Zgt, ↓Zgu, ↓Zgv, ↓Zgw, ↓Zgx, ↓Zgy, ↓Zgz, ↓Zha, ↓Zhb, ↓Zhc, ↓Zhd, ↓Zhe, ↓Zhf, ↓Zhg, ↓Zhh, ↓Zhi, ↓Zhj, ↓Zhk, ↓Zhl, ↓Zhm, ↓Zhn, ↓Zho, ↓Zhp, ↓Zhq, ↓Zhr, ↓Zhs, ↓Zht, ↓Zhu, ↓Zhv, ↓Zhw, ↓Zhx, ↓Zhy, ↓Zhz, ↓Zia, ↓Zib, ↓Zic, ↓Zid, ↓Zie, ↓Zif, ↓Zig, ↓Zih, ↓Zii, ↓Zij, ↓Zik, ↓Zil, ↓Zim, ↓Zin, ↓Zio, ↓Ziq, ↓Zir, ↓Zis, ↓Zit, ↓Ziu, ↓Ziv, ↓Ziw, ↓Zix, ↓Ziy, ↓Ziz, ↓Zja, ↓Zjb, ↓Zjc, ↓Zjd, ↓Zje, ↓Zjf, ↓Zjg, ↓Zjh, ↓Zji, ↓Zjj, ↓Zjk, ↓Zjl, ↓Zjm, ↓Zjn, ↓Zjo, ↓Zjp, ↓Zjq, ↓Zjr, ↓Zjs, ↓Zjt, ↓Zju, ↓Zjv, ↓Zjw, ↓Zjx, ↓Zjy, ↓Zjz, ↓Zka, ↓Zkb, ↓Zkc, ↓Zkd, ↓Zke, ↓Zkf, ↓Zkg, ↓Zkh, ↓Zki, ↓Zkj, ↓Zkk, ↓Zkl, ↓Zkm, ↓Zkn, ↓Zko, ↓Zkp, ↓Zkq, ↓Zkr, ↓Zks, ↓Zkt, ↓Zku, ↓Zkv, ↓Zkw, ↓Zkx, ↓Zky, ↓Zkz, reduceIte, if_true, if_false, Bool.false_eq_true, Bool.and_true, Bool.true_and, Bool.and_false, Bool.false_and, Bool.or_true, Bool.true_or, Bool.or_false, Bool.false_or, Int.cast_ofNat_Int, Zla, Zlb, beq_self_eq_true, Int.reduceBEq, Int.reduceLT, Int.reduceLE, Int.reduceEq, Int.reduceNeg, Nat.reduceLT, Zlc, Zld, Zle, Zlf, Zlg, Zlh, Zli, Zlj, Zlk, Zll, Zlm, Zln, Zlo, Zlp, Zlq, Zlr, Zls, Zlt, Zlu, Zlv, Zlw, Zlx, Zly, Zlz, Zma, Zmb, Zmc, Zmd, Zme, Zmf, Zmg, Zmh, Zmi, Zmj, Zmk, Zml, Zmm, Zmn, Zmo, Zmp, Zmq, Zmr, Zms, Zmt, Zmu, Zmv, Zmw, Zmx, Zmy, Zmz, Zna, Znb, Znc, Znd, Zne, Znf, Zng, Znh, Zni, Znj, Znk, Znl, Znm, Znn, Zno, List.lookup_nil, Znp, Znq, Option.map_some, Option.map_none, Option.bind_some, Option.bind_none, List.map_nil, List.map_cons, List.nil_append, List.cons_append, List.append_nil, List.length_cons, List.length_nil, Nat.reduceAdd, Nat.reduceLeDiff, Nat.reduceEqDiff, Nat.reduceBEq, decide_true, decide_false, Bool.not_true, Bool.not_false, Znr, Zns, Znt, Znu, Znv, Znw, Znx, Zny, Znz, Zoa, Zob, Zoc, Zod, Zoe, List.getElem?_cons_zero, List.getElem?_cons_succ, Zof, Zog, Zoh, Zoi, Zoj, Zok, Zol, Zom, Zon, Zoo, Zop, Zoq, Zor, Zos, Zot, Zou, Zov, Zow, Zox, Zoy, setX, Zoz, Zpa, Zpb, Int.ofNat_lt, Int.ofNat_le, Zpc, Zpd, Zpe, Zpf, Zpg, Zph]
end L2.S.W

set_option Elab.async false
set_option linter.all false
set_option maxRecDepth 100000
set_option maxHeartbeats 8000000
namespace L2.S.W
open PySem PySem.Spec PyProof.Rows L2 L2.S
noncomputable instance brdDec (w : List Nat) (m k : Nat) : Decidable (Brd w m k) := Classical.propDecidable _
noncomputable def brdL (w : List Nat) : List Nat := (List.range w.length).filter fun k => decide (Brd w w.length k)
noncomputable abbrev brdD (w : List Nat) : List D := (brdL w).map fun (k : Nat) => .int (k : Int)
theorem mem_brdL {w : List Nat} {k : Nat} : k ∈ brdL w ↔ Brd w w.length k := by
  unfold brdL
  rw [List.mem_filter, List.mem_range, decide_eq_true_iff]
  exact ⟨fun h => h.2, fun h => ⟨h.1, h⟩⟩
theorem q_borders {w : List Nat} (hw : Wd w) : φ_border_lengths [.val (.str w)] = .ok (.d (.tup (brdD w))) [] := by
  apply run_border_lengths
  unfold g_border_lengths
  have hl := hw.len
  by_cases h0 : w.length = 0
  · obtain rfl := List.length_eq_zero_iff.mp h0
    simp -implicitDefEqProofs -dsimp only [↓Zaa, ↓Zab, ↓Zac, ↓Zad, ↓Zae, ↓Zaf, ↓Zag, ↓Zah, ↓Zai, ↓Zaj, ↓Zak, ↓Zal, ↓Zam, ↓Zan, ↓Zao, ↓Zap, ↓Zaq, ↓Zar, ↓Zas, ↓Zat, ↓Zau, ↓Zav, ↓Zaw, ↓Zax, ↓Zay, ↓Zaz, ↓Zba, ↓Zbb, ↓Zbc, ↓Zbd, ↓Zbe, ↓Zbf, ↓Zbg, ↓Zbh, ↓Zbi, ↓Zbj, ↓Zbk, ↓Zbl, ↓Zbm, ↓Zbn, ↓Zbo, ↓Zbp, ↓Zbq, ↓Zbr, ↓Zbs, ↓Zbt, ↓Zbu, ↓Zbv, ↓Zbw, ↓Zbx, ↓Zby, ↓Zbz, ↓Zca, ↓Zcb, ↓Zcc, ↓Zcd, ↓Zce, ↓Zcf, ↓Zcg, ↓Zch, ↓Zci, ↓Zcj, ↓Zck, ↓Zcl, ↓Zcm, ↓Zcn, ↓Zco, ↓Zcp, ↓Zcq, ↓Zcr, ↓Zcs, ↓Zct, ↓Zcu, ↓Zcv, ↓Zcw, ↓Zcx, ↓Zcy, ↓Zcz, ↓Zda, ↓Zdb, ↓Zdc, ↓Zdd, ↓Zde, ↓Zdf, ↓Zdg, ↓Zdh, ↓Zdi, ↓Zdj, ↓Zdk, ↓Zdl, ↓Zdm, ↓Zdn, ↓Zdo, ↓Zdp, ↓Zdq, ↓Zdr, ↓Zds, ↓Zdt, ↓Zdu, ↓Zdv, ↓Zdw, ↓Zdx, ↓Zdy, ↓Zdz, ↓Zea, ↓Zeb, ↓Zec, ↓Zed, ↓Zee, ↓Zef, ↓Zeg, ↓Zeh, ↓Zei, ↓Zej, ↓Zek, ↓Zel, ↓Zem, ↓Zen, ↓Zeo, ↓Zep, ↓Zeq, ↓Zer, ↓Zes, ↓Zet, ↓Zeu, ↓Zev, ↓Zew, ↓Zex, ↓Zey, ↓Zez, ↓Zfa, ↓Zfb, ↓Zfc, ↓Zfd, ↓Zfe, ↓Zff, ↓Zfg, ↓Zfh, ↓Zfi, ↓Zfj, ↓Zfk, ↓Zfl, ↓Zfm, ↓Zfn, ↓Zfo, ↓Zfp, ↓Zfq, ↓Zfr, ↓Zfs, ↓Zft, ↓Zfu, ↓Zfv, ↓Zfw, ↓Zfx, ↓Zfy, ↓Zfz, ↓Zga, ↓Zgb, ↓Zgc, ↓Zgd, ↓Zge, ↓Zgf, ↓Zgg, ↓Zgh, ↓Zgi, ↓Zgj, ↓Zgk, ↓Zgl, ↓Zgm, ↓Zgn, ↓Zgo, ↓Zgp, ↓Zgq, ↓Zgr, ↓Zgs, ↓Zgt, ↓Zgu, ↓Zgv, ↓Zgw, ↓Zgx, ↓Zgy, ↓Zgz, ↓Zha, ↓Zhb, ↓Zhc, ↓Zhd, ↓Zhe, ↓Zhf, ↓Zhg, ↓Zhh, ↓Zhi, ↓Zhj, ↓Zhk, ↓Zhl, ↓Zhm, ↓Zhn, ↓Zho, ↓Zhp, ↓Zhq, ↓Zhr, ↓Zhs, ↓Zht, ↓Zhu, ↓Zhv, ↓Zhw, ↓Zhx, ↓Zhy, ↓Zhz, ↓Zia, ↓Zib, ↓Zic, ↓Zid, ↓Zie, ↓Zif, ↓Zig, ↓Zih, ↓Zii, ↓Zij, ↓Zik, ↓Zil, ↓Zim, ↓Zin, ↓Zio, ↓Ziq, ↓Zir, ↓Zis, ↓Zit, ↓Ziu, ↓Ziv, ↓Ziw, ↓Zix, ↓Ziy, ↓Ziz, ↓Zja, ↓Zjb, ↓Zjc, ↓Zjd, ↓Zje, ↓Zjf, ↓Zjg, ↓Zjh, ↓Zji, ↓Zjj, ↓Zjk, ↓Zjl, ↓Zjm, ↓Zjn, ↓Zjo, ↓Zjp, ↓Zjq, ↓Zjr, ↓Zjs, ↓Zjt, ↓Zju, ↓Zjv, ↓Zjw, ↓Zjx, ↓Zjy, ↓Zjz, ↓Zka, ↓Zkb, ↓Zkc, ↓Zkd, ↓Zke, ↓Zkf, ↓Zkg, ↓Zkh, ↓Zki, ↓Zkj, ↓Zkk, ↓Zkl, ↓Zkm, ↓Zkn, ↓Zko, ↓Zkp, ↓Zkq, ↓Zkr, ↓Zks, ↓Zkt, ↓Zku, ↓Zkv, ↓Zkw, ↓Zkx, ↓Zky, ↓Zkz, reduceIte, if_true, if_false, Bool.false_eq_true, Bool.and_true, Bool.true_and, Bool.and_false, Bool.false_and, Bool.or_true, Bool.true_or, Bool.or_false, Bool.false_or, Int.cast_ofNat_Int, Zla, Zlb, beq_self_eq_true, Int.reduceBEq, Int.reduceLT, Int.reduceLE, Int.reduceEq, Int.reduceNeg, Nat.reduceLT, Zlc, Zld, Zle, Zlf, Zlg, Zlh, Zli, Zlj, Zlk, Zll, Zlm, Zln, Zlo, Zlp, Zlq, Zlr, Zls, Zlt, Zlu, Zlv, Zlw, Zlx, Zly, Zlz, Zma, Zmb, Zmc, Zmd, Zme, Zmf, Zmg, Zmh, Zmi, Zmj, Zmk, Zml, Zmm, Zmn, Zmo, Zmp, Zmq, Zmr, Zms, Zmt, Zmu, Zmv, Zmw, Zmx, Zmy, Zmz, Zna, Znb, Znc, Znd, Zne, Znf, Zng, Znh, Zni, Znj, Znk, Znl, Znm, Znn, Zno, List.lookup_nil, Znp, Znq, Option.map_some, Option.map_none, Option.bind_some, Option.bind_none, List.map_nil, List.map_cons, List.nil_append, List.cons_append, List.append_nil, List.length_cons, List.length_nil, Nat.reduceAdd, Nat.reduceLeDiff, Nat.reduceEqDiff, Nat.reduceBEq, decide_true, decide_false, Bool.not_true, Bool.not_false, Znr, Zns, Znt, Znu, Znv, Znw, Znx, Zny, Znz, Zoa, Zob, Zoc, Zod, Zoe, List.getElem?_cons_zero, List.getElem?_cons_succ, Zof, Zog, Zoh, Zoi, Zoj, Zok, Zol, Zom, Zon, Zoo, Zop, Zoq, Zor, Zos, Zot, Zou, Zov, Zow, Zox, Zoy, setX, Zoz, Zpa, Zpb, Int.ofNat_lt, Int.ofNat_le, Zpc, Zpd, Zpe, Zpf, Zpg, Zph, q_check hw]
    unfold brdD brdL
    rfl
  have he : (w == []) = false := by
    cases w with
    | nil => exact (h0 rfl).elim
    | cons a l => rfl
  have al : atI (rowB w w.length) (-1) = some (.int (bdr w w.length)) := by
    have e : ixN (rowB w w.length).length (-1) = some (w.length - 1) := by
      rw [vec_len]
      unfold ixN
      rw [if_neg (by omega), if_pos (by omega)]
      congr 1
      omega
    unfold atI
    rw [e]
    show (rowB w w.length)[w.length - 1]? = _
    rw [vec_get (by omega), show w.length - 1 + 1 = w.length by omega]
  simp -implicitDefEqProofs -dsimp only [↓Zaa, ↓Zab, ↓Zac, ↓Zad, ↓Zae, ↓Zaf, ↓Zag, ↓Zah, ↓Zai, ↓Zaj, ↓Zak, ↓Zal, ↓Zam, ↓Zan, ↓Zao, ↓Zap, ↓Zaq, ↓Zar, ↓Zas, ↓Zat, ↓Zau, ↓Zav, ↓Zaw, ↓Zax, ↓Zay, ↓Zaz, ↓Zba, ↓Zbb, ↓Zbc, ↓Zbd, ↓Zbe, ↓Zbf, ↓Zbg, ↓Zbh, ↓Zbi, ↓Zbj, ↓Zbk, ↓Zbl, ↓Zbm, ↓Zbn, ↓Zbo, ↓Zbp, ↓Zbq, ↓Zbr, ↓Zbs, ↓Zbt, ↓Zbu, ↓Zbv, ↓Zbw, ↓Zbx, ↓Zby, ↓Zbz, ↓Zca, ↓Zcb, ↓Zcc, ↓Zcd, ↓Zce, ↓Zcf, ↓Zcg, ↓Zch, ↓Zci, ↓Zcj, ↓Zck, ↓Zcl, ↓Zcm, ↓Zcn, ↓Zco, ↓Zcp, ↓Zcq, ↓Zcr, ↓Zcs, ↓Zct, ↓Zcu, ↓Zcv, ↓Zcw, ↓Zcx, ↓Zcy, ↓Zcz, ↓Zda, ↓Zdb, ↓Zdc, ↓Zdd, ↓Zde, ↓Zdf, ↓Zdg, ↓Zdh, ↓Zdi, ↓Zdj, ↓Zdk, ↓Zdl, ↓Zdm, ↓Zdn, ↓Zdo, ↓Zdp, ↓Zdq, ↓Zdr, ↓Zds, ↓Zdt, ↓Zdu, ↓Zdv, ↓Zdw, ↓Zdx, ↓Zdy, ↓Zdz, ↓Zea, ↓Zeb, ↓Zec, ↓Zed, ↓Zee, ↓Zef, ↓Zeg, ↓Zeh, ↓Zei, ↓Zej, ↓Zek, ↓Zel, ↓Zem, ↓Zen, ↓Zeo, ↓Zep, ↓Zeq, ↓Zer, ↓Zes, ↓Zet, ↓Zeu, ↓Zev, ↓Zew, ↓Zex, ↓Zey, ↓Zez, ↓Zfa, ↓Zfb, ↓Zfc, ↓Zfd, ↓Zfe, ↓Zff, ↓Zfg, ↓Zfh, ↓Zfi, ↓Zfj, ↓Zfk, ↓Zfl, ↓Zfm, ↓Zfn, ↓Zfo, ↓Zfp, ↓Zfq, ↓Zfr, ↓Zfs, ↓Zft, ↓Zfu, ↓Zfv, ↓Zfw, ↓Zfx, ↓Zfy, ↓Zfz, ↓Zga, ↓Zgb, ↓Zgc, ↓Zgd, ↓Zge, ↓Zgf, ↓Zgg, ↓Zgh, ↓Zgi, ↓Zgj, ↓Zgk, ↓Zgl, ↓Zgm, ↓Zgn, ↓Zgo, ↓Zgp, ↓Zgq, ↓Zgr, ↓Zgs, ↓Zgt, ↓Zgu, ↓Zgv, ↓Zgw, ↓Zgx, ↓Zgy, ↓Zgz, ↓Zha, ↓Zhb, ↓Zhc, ↓Zhd, ↓Zhe, ↓Zhf, ↓Zhg, ↓Zhh, ↓Zhi, ↓Zhj, ↓Zhk, ↓Zhl, ↓Zhm, ↓Zhn, ↓Zho, ↓Zhp, ↓Zhq, ↓Zhr, ↓Zhs, ↓Zht, ↓Zhu, ↓Zhv, ↓Zhw, ↓Zhx, ↓Zhy, ↓Zhz, ↓Zia, ↓Zib, ↓Zic, ↓Zid, ↓Zie, ↓Zif, ↓Zig, ↓Zih, ↓Zii, ↓Zij, ↓Zik, ↓Zil, ↓Zim, ↓Zin, ↓Zio, ↓Ziq, ↓Zir, ↓Zis, ↓Zit, ↓Ziu, ↓Ziv, ↓Ziw, ↓Zix, ↓Ziy, ↓Ziz, ↓Zja, ↓Zjb, ↓Zjc, ↓Zjd, ↓Zje, ↓Zjf, ↓Zjg, ↓Zjh, ↓Zji, ↓Zjj, ↓Zjk, ↓Zjl, ↓Zjm, ↓Zjn, ↓Zjo, ↓Zjp, ↓Zjq, ↓Zjr, ↓Zjs, ↓Zjt, ↓Zju, ↓Zjv, ↓Zjw, ↓Zjx, ↓Zjy, ↓Zjz, ↓Zka, ↓Zkb, ↓Zkc, ↓Zkd, ↓Zke, ↓Zkf, ↓Zkg, ↓Zkh, ↓Zki, ↓Zkj, ↓Zkk, ↓Zkl, ↓Zkm, ↓Zkn, ↓Zko, ↓Zkp, ↓Zkq, ↓Zkr, ↓Zks, ↓Zkt, ↓Zku, ↓Zkv, ↓Zkw, ↓Zkx, ↓Zky, ↓Zkz, reduceIte, if_true, if_false, Bool.false_eq_true, Bool.and_true, Bool.true_and, Bool.and_false, Bool.false_and, Bool.or_true, Bool.true_or, Bool.or_false, Bool.false_or, Int.cast_ofNat_Int, Zla, Zlb, beq_self_eq_true, Int.reduceBEq, Int.reduceLT, Int.reduceLE, Int.reduceEq, Int.reduceNeg, Nat.reduceLT, Zlc, Zld, Zle, Zlf, Zlg, Zlh, Zli, Zlj, Zlk, Zll, Zlm, Zln, Zlo, Zlp, Zlq, Zlr, Zls, Zlt, Zlu, Zlv, Zlw, Zlx, Zly, Zlz, Zma, Zmb, Zmc, Zmd, Zme, Zmf, Zmg, Zmh, Zmi, Zmj, Zmk, Zml, Zmm, Zmn, Zmo, Zmp, Zmq, Zmr, Zms, Zmt, Zmu, Zmv, Zmw, Zmx, Zmy, Zmz, Zna, Znb, Znc, Znd, Zne, Znf, Zng, Znh, Zni, Znj, Znk, Znl, Znm, Znn, Zno, List.lookup_nil, Znp, Znq, Option.map_some, Option.map_none, Option.bind_some, Option.bind_none, List.map_nil, List.map_cons, List.nil_append, List.cons_append, List.append_nil, List.length_cons, List.length_nil, Nat.reduceAdd, Nat.reduceLeDiff, Nat.reduceEqDiff, Nat.reduceBEq, decide_true, decide_false, Bool.not_true, Bool.not_false, Znr, Zns, Znt, Znu, Znv, Znw, Znx, Zny, Znz, Zoa, Zob, Zoc, Zod, Zoe, List.getElem?_cons_zero, List.getElem?_cons_succ, Zof, Zog, Zoh, Zoi, Zoj, Zok, Zol, Zom, Zon, Zoo, Zop, Zoq, Zor, Zos, Zot, Zou, Zov, Zow, Zox, Zoy, setX, Zoz, Zpa, Zpb, Int.ofNat_lt, Int.ofNat_le, Zpc, Zpd, Zpe, Zpf, Zpg, Zph, q_check hw, he, q_brow hw, al]
  obtain ⟨b1, b2⟩ := bdr_spec (w := w) (m := w.length) (by omega)
  refine wh_inv (fun e => ∃ (L : List Nat) (k : Nat), e = [.val (.str w), .val (.lst (rowB w w.length)), .own false (.l (L.map fun (i : Nat) => D.int (i : Int))), .val (.int k)] ∧ Brd w w.length k ∧ L.Pairwise (fun a b => b < a) ∧ L.length ≤ 60 ∧ (∀ x, x ∈ L ↔ Brd w w.length x ∧ k < x) ∧ L.length + k ≤ 60) (fun e => match e with | [_, _, _, .val (.int k)] => k.toNat | _ => 0) ?_ ?_ ?_
  · refine ⟨[], bdr w w.length, rfl, b1, .nil, by simp, fun x => ⟨fun h => (by cases h), fun h => ?_⟩, by have := b1.1; simp; omega⟩
    have := b2 x h.1
    omega
  · show ((bdr w w.length : Nat) : Int).toNat < fuelE _
    unfold fuelE sizV sizD
    simp
    omega
  · rintro e ⟨L, k, rfl, hb, hp, hL, hm, hs⟩
    have hk := hb.1
    by_cases hk0 : k = 0
    · subst hk0
      have e1 : decide (0 < ((0 : Nat) : Int)) = false := rfl
      have e2 : (L.map fun (i : Nat) => D.int (i : Int)).reverse = L.reverse.map fun (i : Nat) => D.int (i : Int) := (List.map_reverse ..).symm
      have e4 : 0 :: L.reverse = brdL w := by
        refine sorted_ext ?_ sorted_filter fun x => ?_
        · rw [List.pairwise_cons, List.pairwise_reverse]
          refine ⟨fun x hx => ?_, hp⟩
          have := (hm x).mp (List.mem_reverse.mp hx)
          omega
        · rw [mem_brdL, List.mem_cons, List.mem_reverse, hm]
          constructor
          · rintro (h | h)
            · rw [h]; exact hb
            · exact h.1
          · intro h
            by_cases q : x = 0
            · exact .inl q
            · exact .inr ⟨h, by omega⟩
      have e3 : pAdd (.lst [.int 0]) (.lst (L.reverse.map fun (i : Nat) => .int (i : Int))) = some (.o (.l (brdD w))) := by
        rw [addL (by simp; omega)]
        unfold brdD
        rw [← e4]
        rfl
      simp -implicitDefEqProofs -dsimp only [↓Zaa, ↓Zab, ↓Zac, ↓Zad, ↓Zae, ↓Zaf, ↓Zag, ↓Zah, ↓Zai, ↓Zaj, ↓Zak, ↓Zal, ↓Zam, ↓Zan, ↓Zao, ↓Zap, ↓Zaq, ↓Zar, ↓Zas, ↓Zat, ↓Zau, ↓Zav, ↓Zaw, ↓Zax, ↓Zay, ↓Zaz, ↓Zba, ↓Zbb, ↓Zbc, ↓Zbd, ↓Zbe, ↓Zbf, ↓Zbg, ↓Zbh, ↓Zbi, ↓Zbj, ↓Zbk, ↓Zbl, ↓Zbm, ↓Zbn, ↓Zbo, ↓Zbp, ↓Zbq, ↓Zbr, ↓Zbs, ↓Zbt, ↓Zbu, ↓Zbv, ↓Zbw, ↓Zbx, ↓Zby, ↓Zbz, ↓Zca, ↓Zcb, ↓Zcc, ↓Zcd, ↓Zce, ↓Zcf, ↓Zcg, ↓Zch, ↓Zci, ↓Zcj, ↓Zck, ↓Zcl, ↓Zcm, ↓Zcn, ↓Zco, ↓Zcp, ↓Zcq, ↓Zcr, ↓Zcs, ↓Zct, ↓Zcu, ↓Zcv, ↓Zcw, ↓Zcx, ↓Zcy, ↓Zcz, ↓Zda, ↓Zdb, ↓Zdc, ↓Zdd, ↓Zde, ↓Zdf, ↓Zdg, ↓Zdh, ↓Zdi, ↓Zdj, ↓Zdk, ↓Zdl, ↓Zdm, ↓Zdn, ↓Zdo, ↓Zdp, ↓Zdq, ↓Zdr, ↓Zds, ↓Zdt, ↓Zdu, ↓Zdv, ↓Zdw, ↓Zdx, ↓Zdy, ↓Zdz, ↓Zea, ↓Zeb, ↓Zec, ↓Zed, ↓Zee, ↓Zef, ↓Zeg, ↓Zeh, ↓Zei, ↓Zej, ↓Zek, ↓Zel, ↓Zem, ↓Zen, ↓Zeo, ↓Zep, ↓Zeq, ↓Zer, ↓Zes, ↓Zet, ↓Zeu, ↓Zev, ↓Zew, ↓Zex, ↓Zey, ↓Zez, ↓Zfa, ↓Zfb, ↓Zfc, ↓Zfd, ↓Zfe, ↓Zff, ↓Zfg, ↓Zfh, ↓Zfi, ↓Zfj, ↓Zfk, ↓Zfl, ↓Zfm, ↓Zfn, ↓Zfo, ↓Zfp, ↓Zfq, ↓Zfr, ↓Zfs, ↓Zft, ↓Zfu, ↓Zfv, ↓Zfw, ↓Zfx, ↓Zfy, ↓Zfz, ↓Zga, ↓Zgb, ↓Zgc, ↓Zgd, ↓Zge, ↓Zgf, ↓Zgg, ↓Zgh, ↓Zgi, ↓Zgj, ↓Zgk, ↓Zgl, ↓Zgm, ↓Zgn, ↓Zgo, ↓Zgp, ↓Zgq, ↓Zgr, ↓Zgs, ↓Zgt, ↓Zgu, ↓Zgv, ↓Zgw, ↓Zgx, ↓Zgy, ↓Zgz, ↓Zha, ↓Zhb, ↓Zhc, ↓Zhd, ↓Zhe, ↓Zhf, ↓Zhg, ↓Zhh, ↓Zhi, ↓Zhj, ↓Zhk, ↓Zhl, ↓Zhm, ↓Zhn, ↓Zho, ↓Zhp, ↓Zhq, ↓Zhr, ↓Zhs, ↓Zht, ↓Zhu, ↓Zhv, ↓Zhw, ↓Zhx, ↓Zhy, ↓Zhz, ↓Zia, ↓Zib, ↓Zic, ↓Zid, ↓Zie, ↓Zif, ↓Zig, ↓Zih, ↓Zii, ↓Zij, ↓Zik, ↓Zil, ↓Zim, ↓Zin, ↓Zio, ↓Ziq, ↓Zir, ↓Zis, ↓Zit, ↓Ziu, ↓Ziv, ↓Ziw, ↓Zix, ↓Ziy, ↓Ziz, ↓Zja, ↓Zjb, ↓Zjc, ↓Zjd, ↓Zje, ↓Zjf, ↓Zjg, ↓Zjh, ↓Zji, ↓Zjj, ↓Zjk, ↓Zjl, ↓Zjm, ↓Zjn, ↓Zjo, ↓Zjp, ↓Zjq, ↓Zjr, ↓Zjs, ↓Zjt, ↓Zju, ↓Zjv, ↓Zjw, ↓Zjx, ↓Zjy, ↓Zjz, ↓Zka, ↓Zkb, ↓Zkc, ↓Zkd, ↓Zke, ↓Zkf, ↓Zkg, ↓Zkh, ↓Zki, ↓Zkj, ↓Zkk, ↓Zkl, ↓Zkm, ↓Zkn, ↓Zko, ↓Zkp, ↓Zkq, ↓Zkr, ↓Zks, ↓Zkt, ↓Zku, ↓Zkv, ↓Zkw, ↓Zkx, ↓Zky, ↓Zkz, reduceIte, if_true, if_false, Bool.false_eq_true, Bool.and_true, Bool.true_and, Bool.and_false, Bool.false_and, Bool.or_true, Bool.true_or, Bool.or_false, Bool.false_or, Int.cast_ofNat_Int, Zla, Zlb, beq_self_eq_true, Int.reduceBEq, Int.reduceLT, Int.reduceLE, Int.reduceEq, Int.reduceNeg, Nat.reduceLT, Zlc, Zld, Zle, Zlf, Zlg, Zlh, Zli, Zlj, Zlk, Zll, Zlm, Zln, Zlo, Zlp, Zlq, Zlr, Zls, Zlt, Zlu, Zlv, Zlw, Zlx, Zly, Zlz, Zma, Zmb, Zmc, Zmd, Zme, Zmf, Zmg, Zmh, Zmi, Zmj, Zmk, Zml, Zmm, Zmn, Zmo, Zmp, Zmq, Zmr, Zms, Zmt, Zmu, Zmv, Zmw, Zmx, Zmy, Zmz, Zna, Znb, Znc, Znd, Zne, Znf, Zng, Znh, Zni, Znj, Znk, Znl, Znm, Znn, Zno, List.lookup_nil, Znp, Znq, Option.map_some, Option.map_none, Option.bind_some, Option.bind_none, List.map_nil, List.map_cons, List.nil_append, List.cons_append, List.append_nil, List.length_cons, List.length_nil, Nat.reduceAdd, Nat.reduceLeDiff, Nat.reduceEqDiff, Nat.reduceBEq, decide_true, decide_false, Bool.not_true, Bool.not_false, Znr, Zns, Znt, Znu, Znv, Znw, Znx, Zny, Znz, Zoa, Zob, Zoc, Zod, Zoe, List.getElem?_cons_zero, List.getElem?_cons_succ, Zof, Zog, Zoh, Zoi, Zoj, Zok, Zol, Zom, Zon, Zoo, Zop, Zoq, Zor, Zos, Zot, Zou, Zov, Zow, Zox, Zoy, setX, Zoz, Zpa, Zpb, Int.ofNat_lt, Int.ofNat_le, Zpc, Zpd, Zpe, Zpf, Zpg, Zph, e1, e2, e3]
    · have e1 : decide (0 < (k : Int)) = true := decide_eq_true (by omega)
      have ek : (k : Int) - 1 = ((k - 1 : Nat) : Int) := by omega
      have hk1 : k - 1 < w.length := by omega
      have e2 : bdr w (k - 1 + 1) = bdr w k := by rw [show k - 1 + 1 = k by omega]
      have hq : L.length < 16777216 := by omega
      obtain ⟨c1, c2⟩ := bdr_spec (w := w) (m := k) (by omega)
      have c3 := c1.1
      simp -implicitDefEqProofs -dsimp only [↓Zaa, ↓Zab, ↓Zac, ↓Zad, ↓Zae, ↓Zaf, ↓Zag, ↓Zah, ↓Zai, ↓Zaj, ↓Zak, ↓Zal, ↓Zam, ↓Zan, ↓Zao, ↓Zap, ↓Zaq, ↓Zar, ↓Zas, ↓Zat, ↓Zau, ↓Zav, ↓Zaw, ↓Zax, ↓Zay, ↓Zaz, ↓Zba, ↓Zbb, ↓Zbc, ↓Zbd, ↓Zbe, ↓Zbf, ↓Zbg, ↓Zbh, ↓Zbi, ↓Zbj, ↓Zbk, ↓Zbl, ↓Zbm, ↓Zbn, ↓Zbo, ↓Zbp, ↓Zbq, ↓Zbr, ↓Zbs, ↓Zbt, ↓Zbu, ↓Zbv, ↓Zbw, ↓Zbx, ↓Zby, ↓Zbz, ↓Zca, ↓Zcb, ↓Zcc, ↓Zcd, ↓Zce, ↓Zcf, ↓Zcg, ↓Zch, ↓Zci, ↓Zcj, ↓Zck, ↓Zcl, ↓Zcm, ↓Zcn, ↓Zco, ↓Zcp, ↓Zcq, ↓Zcr, ↓Zcs, ↓Zct, ↓Zcu, ↓Zcv, ↓Zcw, ↓Zcx, ↓Zcy, ↓Zcz, ↓Zda, ↓Zdb, ↓Zdc, ↓Zdd, ↓Zde, ↓Zdf, ↓Zdg, ↓Zdh, ↓Zdi, ↓Zdj, ↓Zdk, ↓Zdl, ↓Zdm, ↓Zdn, ↓Zdo, ↓Zdp, ↓Zdq, ↓Zdr, ↓Zds, ↓Zdt, ↓Zdu, ↓Zdv, ↓Zdw, ↓Zdx, ↓Zdy, ↓Zdz, ↓Zea, ↓Zeb, ↓Zec, ↓Zed, ↓Zee, ↓Zef, ↓Zeg, ↓Zeh, ↓Zei, ↓Zej, ↓Zek, ↓Zel, ↓Zem, ↓Zen, ↓Zeo, ↓Zep, ↓Zeq, ↓Zer, ↓Zes, ↓Zet, ↓Zeu, ↓Zev, ↓Zew, ↓Zex, ↓Zey, ↓Zez, ↓Zfa, ↓Zfb, ↓Zfc, ↓Zfd, ↓Zfe, ↓Zff, ↓Zfg, ↓Zfh, ↓Zfi, ↓Zfj, ↓Zfk, ↓Zfl, ↓Zfm, ↓Zfn, ↓Zfo, ↓Zfp, ↓Zfq, ↓Zfr, ↓Zfs, ↓Zft, ↓Zfu, ↓Zfv, ↓Zfw, ↓Zfx, ↓Zfy, ↓Zfz, ↓Zga, ↓Zgb, ↓Zgc, ↓Zgd, ↓Zge, ↓Zgf, ↓Zgg, ↓Zgh, ↓Zgi, ↓Zgj, ↓Zgk, ↓Zgl, ↓Zgm, ↓Zgn, ↓Zgo, ↓Zgp, ↓Zgq, ↓Zgr, ↓Zgs, ↓Zgt, ↓Zgu, ↓Zgv, ↓Zgw, ↓Zgx, ↓Zgy, ↓Zgz, ↓Zha, ↓Zhb, ↓Zhc, ↓Zhd, ↓Zhe, ↓Zhf, ↓Zhg, ↓Zhh, ↓Zhi, ↓Zhj, ↓Zhk, ↓Zhl, ↓Zhm, ↓Zhn, ↓Zho, ↓Zhp, ↓Zhq, ↓Zhr, ↓Zhs, ↓Zht, ↓Zhu, ↓Zhv, ↓Zhw, ↓Zhx, ↓Zhy, ↓Zhz, ↓Zia, ↓Zib, ↓Zic, ↓Zid, ↓Zie, ↓Zif, ↓Zig, ↓Zih, ↓Zii, ↓Zij, ↓Zik, ↓Zil, ↓Zim, ↓Zin, ↓Zio, ↓Ziq, ↓Zir, ↓Zis, ↓Zit, ↓Ziu, ↓Ziv, ↓Ziw, ↓Zix, ↓Ziy, ↓Ziz, ↓Zja, ↓Zjb, ↓Zjc, ↓Zjd, ↓Zje, ↓Zjf, ↓Zjg, ↓Zjh, ↓Zji, ↓Zjj, ↓Zjk, ↓Zjl, ↓Zjm, ↓Zjn, ↓Zjo, ↓Zjp, ↓Zjq, ↓Zjr, ↓Zjs, ↓Zjt, ↓Zju, ↓Zjv, ↓Zjw, ↓Zjx, ↓Zjy, ↓Zjz, ↓Zka, ↓Zkb, ↓Zkc, ↓Zkd, ↓Zke, ↓Zkf, ↓Zkg, ↓Zkh, ↓Zki, ↓Zkj, ↓Zkk, ↓Zkl, ↓Zkm, ↓Zkn, ↓Zko, ↓Zkp, ↓Zkq, ↓Zkr, ↓Zks, ↓Zkt, ↓Zku, ↓Zkv, ↓Zkw, ↓Zkx, ↓Zky, ↓Zkz, reduceIte, if_true, if_false, Bool.false_eq_true, Bool.and_true, Bool.true_and, Bool.and_false, Bool.false_and, Bool.or_true, Bool.true_or, Bool.or_false, Bool.false_or, Int.cast_ofNat_Int, Zla, Zlb, beq_self_eq_true, Int.reduceBEq, Int.reduceLT, Int.reduceLE, Int.reduceEq, Int.reduceNeg, Nat.reduceLT, Zlc, Zld, Zle, Zlf, Zlg, Zlh, Zli, Zlj, Zlk, Zll, Zlm, Zln, Zlo, Zlp, Zlq, Zlr, Zls, Zlt, Zlu, Zlv, Zlw, Zlx, Zly, Zlz, Zma, Zmb, Zmc, Zmd, Zme, Zmf, Zmg, Zmh, Zmi, Zmj, Zmk, Zml, Zmm, Zmn, Zmo, Zmp, Zmq, Zmr, Zms, Zmt, Zmu, Zmv, Zmw, Zmx, Zmy, Zmz, Zna, Znb, Znc, Znd, Zne, Znf, Zng, Znh, Zni, Znj, Znk, Znl, Znm, Znn, Zno, List.lookup_nil, Znp, Znq, Option.map_some, Option.map_none, Option.bind_some, Option.bind_none, List.map_nil, List.map_cons, List.nil_append, List.cons_append, List.append_nil, List.length_cons, List.length_nil, Nat.reduceAdd, Nat.reduceLeDiff, Nat.reduceEqDiff, Nat.reduceBEq, decide_true, decide_false, Bool.not_true, Bool.not_false, Znr, Zns, Znt, Znu, Znv, Znw, Znx, Zny, Znz, Zoa, Zob, Zoc, Zod, Zoe, List.getElem?_cons_zero, List.getElem?_cons_succ, Zof, Zog, Zoh, Zoi, Zoj, Zok, Zol, Zom, Zon, Zoo, Zop, Zoq, Zor, Zos, Zot, Zou, Zov, Zow, Zox, Zoy, setX, Zoz, Zpa, Zpb, Int.ofNat_lt, Int.ofNat_le, Zpc, Zpd, Zpe, Zpf, Zpg, Zph, e1, List.length_map, hq, ek, vec_atI hk1, e2]
      refine ⟨⟨L ++ [k], bdr w k, by simp, hb.trans c1, ?_, by simp; omega, fun x => ?_, by simp; omega⟩, ?_⟩
      · rw [List.pairwise_append]
        refine ⟨hp, by simp, fun a ha b hb' => ?_⟩
        rw [List.mem_singleton.mp hb']
        exact ((hm a).mp ha).2
      · rw [List.mem_append, List.mem_singleton, hm]
        constructor
        · rintro (h | h)
          · exact ⟨h.1, by omega⟩
          · rw [h]; exact ⟨hb, c3⟩
        · rintro ⟨h1, h2⟩
          by_cases q : k < x
          · exact .inl ⟨h1, q⟩
          · by_cases q2 : x = k
            · exact .inr q2
            · have := c2 x (hb.inner h1 (by omega))
              omega
      · show ((bdr w k : Nat) : Int).toNat < ((k : Nat) : Int).toNat
        omega
theorem q_isint {i : Int} : φ_law_is_int [.val (.int i), .val (.int i)] = .ok (.d (.bl true)) [] := by
  apply run_law_is_int
  unfold g_law_is_int
  simp -implicitDefEqProofs -dsimp only [↓Zaa, ↓Zab, ↓Zac, ↓Zad, ↓Zae, ↓Zaf, ↓Zag, ↓Zah, ↓Zai, ↓Zaj, ↓Zak, ↓Zal, ↓Zam, ↓Zan, ↓Zao, ↓Zap, ↓Zaq, ↓Zar, ↓Zas, ↓Zat, ↓Zau, ↓Zav, ↓Zaw, ↓Zax, ↓Zay, ↓Zaz, ↓Zba, ↓Zbb, ↓Zbc, ↓Zbd, ↓Zbe, ↓Zbf, ↓Zbg, ↓Zbh, ↓Zbi, ↓Zbj, ↓Zbk, ↓Zbl, ↓Zbm, ↓Zbn, ↓Zbo, ↓Zbp, ↓Zbq, ↓Zbr, ↓Zbs, ↓Zbt, ↓Zbu, ↓Zbv, ↓Zbw, ↓Zbx, ↓Zby, ↓Zbz, ↓Zca, ↓Zcb, ↓Zcc, ↓Zcd, ↓Zce, ↓Zcf, ↓Zcg, ↓Zch, ↓Zci, ↓Zcj, ↓Zck, ↓Zcl, ↓Zcm, ↓Zcn, ↓Zco, ↓Zcp, ↓Zcq, ↓Zcr, ↓Zcs, ↓Zct, ↓Zcu, ↓Zcv, ↓Zcw, ↓Zcx, ↓Zcy, ↓Zcz, ↓Zda, ↓Zdb, ↓Zdc, ↓Zdd, ↓Zde, ↓Zdf, ↓Zdg, ↓Zdh, ↓Zdi, ↓Zdj, ↓Zdk, ↓Zdl, ↓Zdm, ↓Zdn, ↓Zdo, ↓Zdp, ↓Zdq, ↓Zdr, ↓Zds, ↓Zdt, ↓Zdu, ↓Zdv, ↓Zdw, ↓Zdx, ↓Zdy, ↓Zdz, ↓Zea, ↓Zeb, ↓Zec, ↓Zed, ↓Zee, ↓Zef, ↓Zeg, ↓Zeh, ↓Zei, ↓Zej, ↓Zek, ↓Zel, ↓Zem, ↓Zen, ↓Zeo, ↓Zep, ↓Zeq, ↓Zer, ↓Zes, ↓Zet, ↓Zeu, ↓Zev, ↓Zew, ↓Zex, ↓Zey, ↓Zez, ↓Zfa, ↓Zfb, ↓Zfc, ↓Zfd, ↓Zfe, ↓Zff, ↓Zfg, ↓Zfh, ↓Zfi, ↓Zfj, ↓Zfk, ↓Zfl, ↓Zfm, ↓Zfn, ↓Zfo, ↓Zfp, ↓Zfq, ↓Zfr, ↓Zfs, ↓Zft, ↓Zfu, ↓Zfv, ↓Zfw, ↓Zfx, ↓Zfy, ↓Zfz, ↓Zga, ↓Zgb, ↓Zgc, ↓Zgd, ↓Zge, ↓Zgf, ↓Zgg, ↓Zgh, ↓Zgi, ↓Zgj, ↓Zgk, ↓Zgl, ↓Zgm, ↓Zgn, ↓Zgo, ↓Zgp, ↓Zgq, ↓Zgr, ↓Zgs, ↓Zgt, ↓Zgu, ↓Zgv, ↓Zgw, ↓Zgx, ↓Zgy, ↓Zgz, ↓Zha, ↓Zhb, ↓Zhc, ↓Zhd, ↓Zhe, ↓Zhf, ↓Zhg, ↓Zhh, ↓Zhi, ↓Zhj, ↓Zhk, ↓Zhl, ↓Zhm, ↓Zhn, ↓Zho, ↓Zhp, ↓Zhq, ↓Zhr, ↓Zhs, ↓Zht, ↓Zhu, ↓Zhv, ↓Zhw, ↓Zhx, ↓Zhy, ↓Zhz, ↓Zia, ↓Zib, ↓Zic, ↓Zid, ↓Zie, ↓Zif, ↓Zig, ↓Zih, ↓Zii, ↓Zij, ↓Zik, ↓Zil, ↓Zim, ↓Zin, ↓Zio, ↓Ziq, ↓Zir, ↓Zis, ↓Zit, ↓Ziu, ↓Ziv, ↓Ziw, ↓Zix, ↓Ziy, ↓Ziz, ↓Zja, ↓Zjb, ↓Zjc, ↓Zjd, ↓Zje, ↓Zjf, ↓Zjg, ↓Zjh, ↓Zji, ↓Zjj, ↓Zjk, ↓Zjl, ↓Zjm, ↓Zjn, ↓Zjo, ↓Zjp, ↓Zjq, ↓Zjr, ↓Zjs, ↓Zjt, ↓Zju, ↓Zjv, ↓Zjw, ↓Zjx, ↓Zjy, ↓Zjz, ↓Zka, ↓Zkb, ↓Zkc, ↓Zkd, ↓Zke, ↓Zkf, ↓Zkg, ↓Zkh, ↓Zki, ↓Zkj, ↓Zkk, ↓Zkl, ↓Zkm, ↓Zkn, ↓Zko, ↓Zkp, ↓Zkq, ↓Zkr, ↓Zks, ↓Zkt, ↓Zku, ↓Zkv, ↓Zkw, ↓Zkx, ↓Zky, ↓Zkz, reduceIte, if_true, if_false, Bool.false_eq_true, Bool.and_true, Bool.true_and, Bool.and_false, Bool.false_and, Bool.or_true, Bool.true_or, Bool.or_false, Bool.false_or, Int.cast_ofNat_Int, Zla, Zlb, beq_self_eq_true, Int.reduceBEq, Int.reduceLT, Int.reduceLE, Int.reduceEq, Int.reduceNeg, Nat.reduceLT, Zlc, Zld, Zle, Zlf, Zlg, Zlh, Zli, Zlj, Zlk, Zll, Zlm, Zln, Zlo, Zlp, Zlq, Zlr, Zls, Zlt, Zlu, Zlv, Zlw, Zlx, Zly, Zlz, Zma, Zmb, Zmc, Zmd, Zme, Zmf, Zmg, Zmh, Zmi, Zmj, Zmk, Zml, Zmm, Zmn, Zmo, Zmp, Zmq, Zmr, Zms, Zmt, Zmu, Zmv, Zmw, Zmx, Zmy, Zmz, Zna, Znb, Znc, Znd, Zne, Znf, Zng, Znh, Zni, Znj, Znk, Znl, Znm, Znn, Zno, List.lookup_nil, Znp, Znq, Option.map_some, Option.map_none, Option.bind_some, Option.bind_none, List.map_nil, List.map_cons, List.nil_append, List.cons_append, List.append_nil, List.length_cons, List.length_nil, Nat.reduceAdd, Nat.reduceLeDiff, Nat.reduceEqDiff, Nat.reduceBEq, decide_true, decide_false, Bool.not_true, Bool.not_false, Znr, Zns, Znt, Znu, Znv, Znw, Znx, Zny, Znz, Zoa, Zob, Zoc, Zod, Zoe, List.getElem?_cons_zero, List.getElem?_cons_succ, Zof, Zog, Zoh, Zoi, Zoj, Zok, Zol, Zom, Zon, Zoo, Zop, Zoq, Zor, Zos, Zot, Zou, Zov, Zow, Zox, Zoy, setX, Zoz, Zpa, Zpb, Int.ofNat_lt, Int.ofNat_le, Zpc, Zpd, Zpe, Zpf, Zpg, Zph]
theorem q_ints {l : List Nat} {f : Nat → Int} (hl : l.length ≤ 1000) : φ_law_are_ints [.val (.tup (l.map fun i => .int (f i))), .val (.lst (l.map fun i => .int (f i)))] = .ok (.d (.bl true)) [] := by
  apply run_law_are_ints
  unfold g_law_are_ints
  have hs := smI_ok (show l.length ≤ 16777216 by omega)
  simp -implicitDefEqProofs -dsimp only [↓Zaa, ↓Zab, ↓Zac, ↓Zad, ↓Zae, ↓Zaf, ↓Zag, ↓Zah, ↓Zai, ↓Zaj, ↓Zak, ↓Zal, ↓Zam, ↓Zan, ↓Zao, ↓Zap, ↓Zaq, ↓Zar, ↓Zas, ↓Zat, ↓Zau, ↓Zav, ↓Zaw, ↓Zax, ↓Zay, ↓Zaz, ↓Zba, ↓Zbb, ↓Zbc, ↓Zbd, ↓Zbe, ↓Zbf, ↓Zbg, ↓Zbh, ↓Zbi, ↓Zbj, ↓Zbk, ↓Zbl, ↓Zbm, ↓Zbn, ↓Zbo, ↓Zbp, ↓Zbq, ↓Zbr, ↓Zbs, ↓Zbt, ↓Zbu, ↓Zbv, ↓Zbw, ↓Zbx, ↓Zby, ↓Zbz, ↓Zca, ↓Zcb, ↓Zcc, ↓Zcd, ↓Zce, ↓Zcf, ↓Zcg, ↓Zch, ↓Zci, ↓Zcj, ↓Zck, ↓Zcl, ↓Zcm, ↓Zcn, ↓Zco, ↓Zcp, ↓Zcq, ↓Zcr, ↓Zcs, ↓Zct, ↓Zcu, ↓Zcv, ↓Zcw, ↓Zcx, ↓Zcy, ↓Zcz, ↓Zda, ↓Zdb, ↓Zdc, ↓Zdd, ↓Zde, ↓Zdf, ↓Zdg, ↓Zdh, ↓Zdi, ↓Zdj, ↓Zdk, ↓Zdl, ↓Zdm, ↓Zdn, ↓Zdo, ↓Zdp, ↓Zdq, ↓Zdr, ↓Zds, ↓Zdt, ↓Zdu, ↓Zdv, ↓Zdw, ↓Zdx, ↓Zdy, ↓Zdz, ↓Zea, ↓Zeb, ↓Zec, ↓Zed, ↓Zee, ↓Zef, ↓Zeg, ↓Zeh, ↓Zei, ↓Zej, ↓Zek, ↓Zel, ↓Zem, ↓Zen, ↓Zeo, ↓Zep, ↓Zeq, ↓Zer, ↓Zes, ↓Zet, ↓Zeu, ↓Zev, ↓Zew, ↓Zex, ↓Zey, ↓Zez, ↓Zfa, ↓Zfb, ↓Zfc, ↓Zfd, ↓Zfe, ↓Zff, ↓Zfg, ↓Zfh, ↓Zfi, ↓Zfj, ↓Zfk, ↓Zfl, ↓Zfm, ↓Zfn, ↓Zfo, ↓Zfp, ↓Zfq, ↓Zfr, ↓Zfs, ↓Zft, ↓Zfu, ↓Zfv, ↓Zfw, ↓Zfx, ↓Zfy, ↓Zfz, ↓Zga, ↓Zgb, ↓Zgc, ↓Zgd, ↓Zge, ↓Zgf, ↓Zgg, ↓Zgh, ↓Zgi, ↓Zgj, ↓Zgk, ↓Zgl, ↓Zgm, ↓Zgn, ↓Zgo, ↓Zgp, ↓Zgq, ↓Zgr, ↓Zgs, ↓Zgt, ↓Zgu, ↓Zgv, ↓Zgw, ↓Zgx, ↓Zgy, ↓Zgz, ↓Zha, ↓Zhb, ↓Zhc, ↓Zhd, ↓Zhe, ↓Zhf, ↓Zhg, ↓Zhh, ↓Zhi, ↓Zhj, ↓Zhk, ↓Zhl, ↓Zhm, ↓Zhn, ↓Zho, ↓Zhp, ↓Zhq, ↓Zhr, ↓Zhs, ↓Zht, ↓Zhu, ↓Zhv, ↓Zhw, ↓Zhx, ↓Zhy, ↓Zhz, ↓Zia, ↓Zib, ↓Zic, ↓Zid, ↓Zie, ↓Zif, ↓Zig, ↓Zih, ↓Zii, ↓Zij, ↓Zik, ↓Zil, ↓Zim, ↓Zin, ↓Zio, ↓Ziq, ↓Zir, ↓Zis, ↓Zit, ↓Ziu, ↓Ziv, ↓Ziw, ↓Zix, ↓Ziy, ↓Ziz, ↓Zja, ↓Zjb, ↓Zjc, ↓Zjd, ↓Zje, ↓Zjf, ↓Zjg, ↓Zjh, ↓Zji, ↓Zjj, ↓Zjk, ↓Zjl, ↓Zjm, ↓Zjn, ↓Zjo, ↓Zjp, ↓Zjq, ↓Zjr, ↓Zjs, ↓Zjt, ↓Zju, ↓Zjv, ↓Zjw, ↓Zjx, ↓Zjy, ↓Zjz, ↓Zka, ↓Zkb, ↓Zkc, ↓Zkd, ↓Zke, ↓Zkf, ↓Zkg, ↓Zkh, ↓Zki, ↓Zkj, ↓Zkk, ↓Zkl, ↓Zkm, ↓Zkn, ↓Zko, ↓Zkp, ↓Zkq, ↓Zkr, ↓Zks, ↓Zkt, ↓Zku, ↓Zkv, ↓Zkw, ↓Zkx, ↓Zky, ↓Zkz, reduceIte, if_true, if_false, Bool.false_eq_true, Bool.and_true, Bool.true_and, Bool.and_false, Bool.false_and, Bool.or_true, Bool.true_or, Bool.or_false, Bool.false_or, Int.cast_ofNat_Int, Zla, Zlb, beq_self_eq_true, Int.reduceBEq, Int.reduceLT, Int.reduceLE, Int.reduceEq, Int.reduceNeg, Nat.reduceLT, Zlc, Zld, Zle, Zlf, Zlg, Zlh, Zli, Zlj, Zlk, Zll, Zlm, Zln, Zlo, Zlp, Zlq, Zlr, Zls, Zlt, Zlu, Zlv, Zlw, Zlx, Zly, Zlz, Zma, Zmb, Zmc, Zmd, Zme, Zmf, Zmg, Zmh, Zmi, Zmj, Zmk, Zml, Zmm, Zmn, Zmo, Zmp, Zmq, Zmr, Zms, Zmt, Zmu, Zmv, Zmw, Zmx, Zmy, Zmz, Zna, Znb, Znc, Znd, Zne, Znf, Zng, Znh, Zni, Znj, Znk, Znl, Znm, Znn, Zno, List.lookup_nil, Znp, Znq, Option.map_some, Option.map_none, Option.bind_some, Option.bind_none, List.map_nil, List.map_cons, List.nil_append, List.cons_append, List.append_nil, List.length_cons, List.length_nil, Nat.reduceAdd, Nat.reduceLeDiff, Nat.reduceEqDiff, Nat.reduceBEq, decide_true, decide_false, Bool.not_true, Bool.not_false, Znr, Zns, Znt, Znu, Znv, Znw, Znx, Zny, Znz, Zoa, Zob, Zoc, Zod, Zoe, List.getElem?_cons_zero, List.getElem?_cons_succ, Zof, Zog, Zoh, Zoi, Zoj, Zok, Zol, Zom, Zon, Zoo, Zop, Zoq, Zor, Zos, Zot, Zou, Zov, Zow, Zox, Zoy, setX, Zoz, Zpa, Zpb, Int.ofNat_lt, Int.ofNat_le, Zpc, Zpd, Zpe, Zpf, Zpg, Zph, List.length_map, hs]
  refine lc_rng (fun _ => .bl true) rfl (by simp only [wipeE, List.set_cons_zero, List.set_cons_succ]; rfl) (by omega) (fun i hi => ?_) ?_
  · have e : (l.map fun i => D.int (f i))[i]? = some (.int (f l[i])) := by rw [List.getElem?_map, List.getElem?_eq_getElem hi]; rfl
    simp -implicitDefEqProofs -dsimp only [↓Zaa, ↓Zab, ↓Zac, ↓Zad, ↓Zae, ↓Zaf, ↓Zag, ↓Zah, ↓Zai, ↓Zaj, ↓Zak, ↓Zal, ↓Zam, ↓Zan, ↓Zao, ↓Zap, ↓Zaq, ↓Zar, ↓Zas, ↓Zat, ↓Zau, ↓Zav, ↓Zaw, ↓Zax, ↓Zay, ↓Zaz, ↓Zba, ↓Zbb, ↓Zbc, ↓Zbd, ↓Zbe, ↓Zbf, ↓Zbg, ↓Zbh, ↓Zbi, ↓Zbj, ↓Zbk, ↓Zbl, ↓Zbm, ↓Zbn, ↓Zbo, ↓Zbp, ↓Zbq, ↓Zbr, ↓Zbs, ↓Zbt, ↓Zbu, ↓Zbv, ↓Zbw, ↓Zbx, ↓Zby, ↓Zbz, ↓Zca, ↓Zcb, ↓Zcc, ↓Zcd, ↓Zce, ↓Zcf, ↓Zcg, ↓Zch, ↓Zci, ↓Zcj, ↓Zck, ↓Zcl, ↓Zcm, ↓Zcn, ↓Zco, ↓Zcp, ↓Zcq, ↓Zcr, ↓Zcs, ↓Zct, ↓Zcu, ↓Zcv, ↓Zcw, ↓Zcx, ↓Zcy, ↓Zcz, ↓Zda, ↓Zdb, ↓Zdc, ↓Zdd, ↓Zde, ↓Zdf, ↓Zdg, ↓Zdh, ↓Zdi, ↓Zdj, ↓Zdk, ↓Zdl, ↓Zdm, ↓Zdn, ↓Zdo, ↓Zdp, ↓Zdq, ↓Zdr, ↓Zds, ↓Zdt, ↓Zdu, ↓Zdv, ↓Zdw, ↓Zdx, ↓Zdy, ↓Zdz, ↓Zea, ↓Zeb, ↓Zec, ↓Zed, ↓Zee, ↓Zef, ↓Zeg, ↓Zeh, ↓Zei, ↓Zej, ↓Zek, ↓Zel, ↓Zem, ↓Zen, ↓Zeo, ↓Zep, ↓Zeq, ↓Zer, ↓Zes, ↓Zet, ↓Zeu, ↓Zev, ↓Zew, ↓Zex, ↓Zey, ↓Zez, ↓Zfa, ↓Zfb, ↓Zfc, ↓Zfd, ↓Zfe, ↓Zff, ↓Zfg, ↓Zfh, ↓Zfi, ↓Zfj, ↓Zfk, ↓Zfl, ↓Zfm, ↓Zfn, ↓Zfo, ↓Zfp, ↓Zfq, ↓Zfr, ↓Zfs, ↓Zft, ↓Zfu, ↓Zfv, ↓Zfw, ↓Zfx, ↓Zfy, ↓Zfz, ↓Zga, ↓Zgb, ↓Zgc, ↓Zgd, ↓Zge, ↓Zgf, ↓Zgg, ↓Zgh, ↓Zgi, ↓Zgj, ↓Zgk, ↓Zgl, ↓Zgm, ↓Zgn, ↓Zgo, ↓Zgp, ↓Zgq, ↓Zgr, ↓Zgs, ↓Zgt, ↓Zgu, ↓Zgv, ↓Zgw, ↓Zgx, ↓Zgy, ↓Zgz, ↓Zha, ↓Zhb, ↓Zhc, ↓Zhd, ↓Zhe, ↓Zhf, ↓Zhg, ↓Zhh, ↓Zhi, ↓Zhj, ↓Zhk, ↓Zhl, ↓Zhm, ↓Zhn, ↓Zho, ↓Zhp, ↓Zhq, ↓Zhr, ↓Zhs, ↓Zht, ↓Zhu, ↓Zhv, ↓Zhw, ↓Zhx, ↓Zhy, ↓Zhz, ↓Zia, ↓Zib, ↓Zic, ↓Zid, ↓Zie, ↓Zif, ↓Zig, ↓Zih, ↓Zii, ↓Zij, ↓Zik, ↓Zil, ↓Zim, ↓Zin, ↓Zio, ↓Ziq, ↓Zir, ↓Zis, ↓Zit, ↓Ziu, ↓Ziv, ↓Ziw, ↓Zix, ↓Ziy, ↓Ziz, ↓Zja, ↓Zjb, ↓Zjc, ↓Zjd, ↓Zje, ↓Zjf, ↓Zjg, ↓Zjh, ↓Zji, ↓Zjj, ↓Zjk, ↓Zjl, ↓Zjm, ↓Zjn, ↓Zjo, ↓Zjp, ↓Zjq, ↓Zjr, ↓Zjs, ↓Zjt, ↓Zju, ↓Zjv, ↓Zjw, ↓Zjx, ↓Zjy, ↓Zjz, ↓Zka, ↓Zkb, ↓Zkc, ↓Zkd, ↓Zke, ↓Zkf, ↓Zkg, ↓Zkh, ↓Zki, ↓Zkj, ↓Zkk, ↓Zkl, ↓Zkm, ↓Zkn, ↓Zko, ↓Zkp, ↓Zkq, ↓Zkr, ↓Zks, ↓Zkt, ↓Zku, ↓Zkv, ↓Zkw, ↓Zkx, ↓Zky, ↓Zkz, reduceIte, if_true, if_false, Bool.false_eq_true, Bool.and_true, Bool.true_and, Bool.and_false, Bool.false_and, Bool.or_true, Bool.true_or, Bool.or_false, Bool.false_or, Int.cast_ofNat_Int, Zla, Zlb, beq_self_eq_true, Int.reduceBEq, Int.reduceLT, Int.reduceLE, Int.reduceEq, Int.reduceNeg, Nat.reduceLT, Zlc, Zld, Zle, Zlf, Zlg, Zlh, Zli, Zlj, Zlk, Zll, Zlm, Zln, Zlo, Zlp, Zlq, Zlr, Zls, Zlt, Zlu, Zlv, Zlw, Zlx, Zly, Zlz, Zma, Zmb, Zmc, Zmd, Zme, Zmf, Zmg, Zmh, Zmi, Zmj, Zmk, Zml, Zmm, Zmn, Zmo, Zmp, Zmq, Zmr, Zms, Zmt, Zmu, Zmv, Zmw, Zmx, Zmy, Zmz, Zna, Znb, Znc, Znd, Zne, Znf, Zng, Znh, Zni, Znj, Znk, Znl, Znm, Znn, Zno, List.lookup_nil, Znp, Znq, Option.map_some, Option.map_none, Option.bind_some, Option.bind_none, List.map_nil, List.map_cons, List.nil_append, List.cons_append, List.append_nil, List.length_cons, List.length_nil, Nat.reduceAdd, Nat.reduceLeDiff, Nat.reduceEqDiff, Nat.reduceBEq, decide_true, decide_false, Bool.not_true, Bool.not_false, Znr, Zns, Znt, Znu, Znv, Znw, Znx, Zny, Znz, Zoa, Zob, Zoc, Zod, Zoe, List.getElem?_cons_zero, List.getElem?_cons_succ, Zof, Zog, Zoh, Zoi, Zoj, Zok, Zol, Zom, Zon, Zoo, Zop, Zoq, Zor, Zos, Zot, Zou, Zov, Zow, Zox, Zoy, setX, Zoz, Zpa, Zpb, Int.ofNat_lt, Int.ofNat_le, Zpc, Zpd, Zpe, Zpf, Zpg, Zph, e, q_isint]
    exact ⟨rfl, rfl, trivial⟩
  · have e : bAll [.lst (vec l.length fun _ => .bl true)] = some (.d (.bl true)) := by
      show bAll [.lst ((List.range l.length).map fun _ => .bl true)] = _
      rw [Zop (f := fun _ => true)]
      simp
    simp -implicitDefEqProofs -dsimp only [↓Zaa, ↓Zab, ↓Zac, ↓Zad, ↓Zae, ↓Zaf, ↓Zag, ↓Zah, ↓Zai, ↓Zaj, ↓Zak, ↓Zal, ↓Zam, ↓Zan, ↓Zao, ↓Zap, ↓Zaq, ↓Zar, ↓Zas, ↓Zat, ↓Zau, ↓Zav, ↓Zaw, ↓Zax, ↓Zay, ↓Zaz, ↓Zba, ↓Zbb, ↓Zbc, ↓Zbd, ↓Zbe, ↓Zbf, ↓Zbg, ↓Zbh, ↓Zbi, ↓Zbj, ↓Zbk, ↓Zbl, ↓Zbm, ↓Zbn, ↓Zbo, ↓Zbp, ↓Zbq, ↓Zbr, ↓Zbs, ↓Zbt, ↓Zbu, ↓Zbv, ↓Zbw, ↓Zbx, ↓Zby, ↓Zbz, ↓Zca, ↓Zcb, ↓Zcc, ↓Zcd, ↓Zce, ↓Zcf, ↓Zcg, ↓Zch, ↓Zci, ↓Zcj, ↓Zck, ↓Zcl, ↓Zcm, ↓Zcn, ↓Zco, ↓Zcp, ↓Zcq, ↓Zcr, ↓Zcs, ↓Zct, ↓Zcu, ↓Zcv, ↓Zcw, ↓Zcx, ↓Zcy, ↓Zcz, ↓Zda, ↓Zdb, ↓Zdc, ↓Zdd, ↓Zde, ↓Zdf, ↓Zdg, ↓Zdh, ↓Zdi, ↓Zdj, ↓Zdk, ↓Zdl, ↓Zdm, ↓Zdn, ↓Zdo, ↓Zdp, ↓Zdq, ↓Zdr, ↓Zds, ↓Zdt, ↓Zdu, ↓Zdv, ↓Zdw, ↓Zdx, ↓Zdy, ↓Zdz, ↓Zea, ↓Zeb, ↓Zec, ↓Zed, ↓Zee, ↓Zef, ↓Zeg, ↓Zeh, ↓Zei, ↓Zej, ↓Zek, ↓Zel, ↓Zem, ↓Zen, ↓Zeo, ↓Zep, ↓Zeq, ↓Zer, ↓Zes, ↓Zet, ↓Zeu, ↓Zev, ↓Zew, ↓Zex, ↓Zey, ↓Zez, ↓Zfa, ↓Zfb, ↓Zfc, ↓Zfd, ↓Zfe, ↓Zff, ↓Zfg, ↓Zfh, ↓Zfi, ↓Zfj, ↓Zfk, ↓Zfl, ↓Zfm, ↓Zfn, ↓Zfo, ↓Zfp, ↓Zfq, ↓Zfr, ↓Zfs, ↓Zft, ↓Zfu, ↓Zfv, ↓Zfw, ↓Zfx, ↓Zfy, ↓Zfz, ↓Zga, ↓Zgb, ↓Zgc, ↓Zgd, ↓Zge, ↓Zgf, ↓Zgg, ↓Zgh, ↓Zgi, ↓Zgj, ↓Zgk, ↓Zgl, ↓Zgm, ↓Zgn, ↓Zgo, ↓Zgp, ↓Zgq, ↓Zgr, ↓Zgs, ↓Zgt, ↓Zgu, ↓Zgv, ↓Zgw, ↓Zgx, ↓Zgy, ↓Zgz, ↓Zha, ↓Zhb, ↓Zhc, ↓Zhd, ↓Zhe, ↓Zhf, ↓Zhg, ↓Zhh, ↓Zhi, ↓Zhj, ↓Zhk, ↓Zhl, ↓Zhm, ↓Zhn, ↓Zho, ↓Zhp, ↓Zhq, ↓Zhr, ↓Zhs, ↓Zht, ↓Zhu, ↓Zhv, ↓Zhw, ↓Zhx, ↓Zhy, ↓Zhz, ↓Zia, ↓Zib, ↓Zic, ↓Zid, ↓Zie, ↓Zif, ↓Zig, ↓Zih, ↓Zii, ↓Zij, ↓Zik, ↓Zil, ↓Zim, ↓Zin, ↓Zio, ↓Ziq, ↓Zir, ↓Zis, ↓Zit, ↓Ziu, ↓Ziv, ↓Ziw, ↓Zix, ↓Ziy, ↓Ziz, ↓Zja, ↓Zjb, ↓Zjc, ↓Zjd, ↓Zje, ↓Zjf, ↓Zjg, ↓Zjh, ↓Zji, ↓Zjj, ↓Zjk, ↓Zjl, ↓Zjm, ↓Zjn, ↓Zjo, ↓Zjp, ↓Zjq, ↓Zjr, ↓Zjs, ↓Zjt, ↓Zju, ↓Zjv, ↓Zjw, ↓Zjx, ↓Zjy, ↓Zjz, ↓Zka, ↓Zkb, ↓Zkc, ↓Zkd, ↓Zke, ↓Zkf, ↓Zkg, ↓Zkh, ↓Zki, ↓Zkj, ↓Zkk, ↓Zkl, ↓Zkm, ↓Zkn, ↓Zko, ↓Zkp, ↓Zkq, ↓Zkr, ↓Zks, ↓Zkt, ↓Zku, ↓Zkv, ↓Zkw, ↓Zkx, ↓Zky, ↓Zkz, reduceIte, if_true, if_false, Bool.false_eq_true, Bool.and_true, Bool.true_and, Bool.and_false, Bool.false_and, Bool.or_true, Bool.true_or, Bool.or_false, Bool.false_or, Int.cast_ofNat_Int, Zla, Zlb, beq_self_eq_true, Int.reduceBEq, Int.reduceLT, Int.reduceLE, Int.reduceEq, Int.reduceNeg, Nat.reduceLT, Zlc, Zld, Zle, Zlf, Zlg, Zlh, Zli, Zlj, Zlk, Zll, Zlm, Zln, Zlo, Zlp, Zlq, Zlr, Zls, Zlt, Zlu, Zlv, Zlw, Zlx, Zly, Zlz, Zma, Zmb, Zmc, Zmd, Zme, Zmf, Zmg, Zmh, Zmi, Zmj, Zmk, Zml, Zmm, Zmn, Zmo, Zmp, Zmq, Zmr, Zms, Zmt, Zmu, Zmv, Zmw, Zmx, Zmy, Zmz, Zna, Znb, Znc, Znd, Zne, Znf, Zng, Znh, Zni, Znj, Znk, Znl, Znm, Znn, Zno, List.lookup_nil, Znp, Znq, Option.map_some, Option.map_none, Option.bind_some, Option.bind_none, List.map_nil, List.map_cons, List.nil_append, List.cons_append, List.append_nil, List.length_cons, List.length_nil, Nat.reduceAdd, Nat.reduceLeDiff, Nat.reduceEqDiff, Nat.reduceBEq, decide_true, decide_false, Bool.not_true, Bool.not_false, Znr, Zns, Znt, Znu, Znv, Znw, Znx, Zny, Znz, Zoa, Zob, Zoc, Zod, Zoe, List.getElem?_cons_zero, List.getElem?_cons_succ, Zof, Zog, Zoh, Zoi, Zoj, Zok, Zol, Zom, Zon, Zoo, Zop, Zoq, Zor, Zos, Zot, Zou, Zov, Zow, Zox, Zoy, setX, Zoz, Zpa, Zpb, Int.ofNat_lt, Int.ofNat_le, Zpc, Zpd, Zpe, Zpf, Zpg, Zph, e]
theorem q_isinteger {i : Int} : φ_is_integer [.val (.int i)] = .ok (.d (.bl true)) [] := by
  apply run_is_integer
  unfold g_is_integer
  simp -implicitDefEqProofs -dsimp only [↓Zaa, ↓Zab, ↓Zac, ↓Zad, ↓Zae, ↓Zaf, ↓Zag, ↓Zah, ↓Zai, ↓Zaj, ↓Zak, ↓Zal, ↓Zam, ↓Zan, ↓Zao, ↓Zap, ↓Zaq, ↓Zar, ↓Zas, ↓Zat, ↓Zau, ↓Zav, ↓Zaw, ↓Zax, ↓Zay, ↓Zaz, ↓Zba, ↓Zbb, ↓Zbc, ↓Zbd, ↓Zbe, ↓Zbf, ↓Zbg, ↓Zbh, ↓Zbi, ↓Zbj, ↓Zbk, ↓Zbl, ↓Zbm, ↓Zbn, ↓Zbo, ↓Zbp, ↓Zbq, ↓Zbr, ↓Zbs, ↓Zbt, ↓Zbu, ↓Zbv, ↓Zbw, ↓Zbx, ↓Zby, ↓Zbz, ↓Zca, ↓Zcb, ↓Zcc, ↓Zcd, ↓Zce, ↓Zcf, ↓Zcg, ↓Zch, ↓Zci, ↓Zcj, ↓Zck, ↓Zcl, ↓Zcm, ↓Zcn, ↓Zco, ↓Zcp, ↓Zcq, ↓Zcr, ↓Zcs, ↓Zct, ↓Zcu, ↓Zcv, ↓Zcw, ↓Zcx, ↓Zcy, ↓Zcz, ↓Zda, ↓Zdb, ↓Zdc, ↓Zdd, ↓Zde, ↓Zdf, ↓Zdg, ↓Zdh, ↓Zdi, ↓Zdj, ↓Zdk, ↓Zdl, ↓Zdm, ↓Zdn, ↓Zdo, ↓Zdp, ↓Zdq, ↓Zdr, ↓Zds, ↓Zdt, ↓Zdu, ↓Zdv, ↓Zdw, ↓Zdx, ↓Zdy, ↓Zdz, ↓Zea, ↓Zeb, ↓Zec, ↓Zed, ↓Zee, ↓Zef, ↓Zeg, ↓Zeh, ↓Zei, ↓Zej, ↓Zek, ↓Zel, ↓Zem, ↓Zen, ↓Zeo, ↓Zep, ↓Zeq, ↓Zer, ↓Zes, ↓Zet, ↓Zeu, ↓Zev, ↓Zew, ↓Zex, ↓Zey, ↓Zez, ↓Zfa, ↓Zfb, ↓Zfc, ↓Zfd, ↓Zfe, ↓Zff, ↓Zfg, ↓Zfh, ↓Zfi, ↓Zfj, ↓Zfk, ↓Zfl, ↓Zfm, ↓Zfn, ↓Zfo, ↓Zfp, ↓Zfq, ↓Zfr, ↓Zfs, ↓Zft, ↓Zfu, ↓Zfv, ↓Zfw, ↓Zfx, ↓Zfy, ↓Zfz, ↓Zga, ↓Zgb, ↓Zgc, ↓Zgd, ↓Zge, ↓Zgf, ↓Zgg, ↓Zgh, ↓Zgi, ↓Zgj, ↓Zgk, ↓Zgl, ↓Zgm, ↓Zgn, ↓Zgo, ↓Zgp, ↓Zgq, ↓Zgr, ↓Zgs, ↓Zgt, ↓Zgu, ↓Zgv, ↓Zgw, ↓Zgx, ↓Zgy, ↓Zgz, ↓Zha, ↓Zhb, ↓Zhc, ↓Zhd, ↓Zhe, ↓Zhf, ↓Zhg, ↓Zhh, ↓Zhi, ↓Zhj, ↓Zhk, ↓Zhl, ↓Zhm, ↓Zhn, ↓Zho, ↓Zhp, ↓Zhq, ↓Zhr, ↓Zhs, ↓Zht, ↓Zhu, ↓Zhv, ↓Zhw, ↓Zhx, ↓Zhy, ↓Zhz, ↓Zia, ↓Zib, ↓Zic, ↓Zid, ↓Zie, ↓Zif, ↓Zig, ↓Zih, ↓Zii, ↓Zij, ↓Zik, ↓Zil, ↓Zim, ↓Zin, ↓Zio, ↓Ziq, ↓Zir, ↓Zis, ↓Zit, ↓Ziu, ↓Ziv, ↓Ziw, ↓Zix, ↓Ziy, ↓Ziz, ↓Zja, ↓Zjb, ↓Zjc, ↓Zjd, ↓Zje, ↓Zjf, ↓Zjg, ↓Zjh, ↓Zji, ↓Zjj, ↓Zjk, ↓Zjl, ↓Zjm, ↓Zjn, ↓Zjo, ↓Zjp, ↓Zjq, ↓Zjr, ↓Zjs, ↓Zjt, ↓Zju, ↓Zjv, ↓Zjw, ↓Zjx, ↓Zjy, ↓Zjz, ↓Zka, ↓Zkb, ↓Zkc, ↓Zkd, ↓Zke, ↓Zkf, ↓Zkg, ↓Zkh, ↓Zki, ↓Zkj, ↓Zkk, ↓Zkl, ↓Zkm, ↓Zkn, ↓Zko, ↓Zkp, ↓Zkq, ↓Zkr, ↓Zks, ↓Zkt, ↓Zku, ↓Zkv, ↓Zkw, ↓Zkx, ↓Zky, ↓Zkz, reduceIte, if_true, if_false, Bool.false_eq_true, Bool.and_true, Bool.true_and, Bool.and_false, Bool.false_and, Bool.or_true, Bool.true_or, Bool.or_false, Bool.false_or, Int.cast_ofNat_Int, Zla, Zlb, beq_self_eq_true, Int.reduceBEq, Int.reduceLT, Int.reduceLE, Int.reduceEq, Int.reduceNeg, Nat.reduceLT, Zlc, Zld, Zle, Zlf, Zlg, Zlh, Zli, Zlj, Zlk, Zll, Zlm, Zln, Zlo, Zlp, Zlq, Zlr, Zls, Zlt, Zlu, Zlv, Zlw, Zlx, Zly, Zlz, Zma, Zmb, Zmc, Zmd, Zme, Zmf, Zmg, Zmh, Zmi, Zmj, Zmk, Zml, Zmm, Zmn, Zmo, Zmp, Zmq, Zmr, Zms, Zmt, Zmu, Zmv, Zmw, Zmx, Zmy, Zmz, Zna, Znb, Znc, Znd, Zne, Znf, Zng, Znh, Zni, Znj, Znk, Znl, Znm, Znn, Zno, List.lookup_nil, Znp, Znq, Option.map_some, Option.map_none, Option.bind_some, Option.bind_none, List.map_nil, List.map_cons, List.nil_append, List.cons_append, List.append_nil, List.length_cons, List.length_nil, Nat.reduceAdd, Nat.reduceLeDiff, Nat.reduceEqDiff, Nat.reduceBEq, decide_true, decide_false, Bool.not_true, Bool.not_false, Znr, Zns, Znt, Znu, Znv, Znw, Znx, Zny, Znz, Zoa, Zob, Zoc, Zod, Zoe, List.getElem?_cons_zero, List.getElem?_cons_succ, Zof, Zog, Zoh, Zoi, Zoj, Zok, Zol, Zom, Zon, Zoo, Zop, Zoq, Zor, Zos, Zot, Zou, Zov, Zow, Zox, Zoy, setX, Zoz, Zpa, Zpb, Int.ofNat_lt, Int.ofNat_le, Zpc, Zpd, Zpe, Zpf, Zpg, Zph]
theorem q_lper {w : List Nat} (hw : Wd w) {c : Nat} (h0 : 0 < c) (hc : c < w.length) : φ_local_period [.val (.str w), .val (.int c)] = .ok (.d (.int (lp w c))) [] := by
  apply run_local_period
  unfold g_local_period
  have hl := hw.len
  have hl2 : w.length ≤ 16777216 := by omega
  have e1 : decide (0 < c) = true := decide_eq_true h0
  have e1' : decide ((0 : Int) < (c : Int)) = true := decide_eq_true (by omega)
  have e2 : decide (c < w.length) = true := decide_eq_true hc
  simp -implicitDefEqProofs -dsimp only [↓Zaa, ↓Zab, ↓Zac, ↓Zad, ↓Zae, ↓Zaf, ↓Zag, ↓Zah, ↓Zai, ↓Zaj, ↓Zak, ↓Zal, ↓Zam, ↓Zan, ↓Zao, ↓Zap, ↓Zaq, ↓Zar, ↓Zas, ↓Zat, ↓Zau, ↓Zav, ↓Zaw, ↓Zax, ↓Zay, ↓Zaz, ↓Zba, ↓Zbb, ↓Zbc, ↓Zbd, ↓Zbe, ↓Zbf, ↓Zbg, ↓Zbh, ↓Zbi, ↓Zbj, ↓Zbk, ↓Zbl, ↓Zbm, ↓Zbn, ↓Zbo, ↓Zbp, ↓Zbq, ↓Zbr, ↓Zbs, ↓Zbt, ↓Zbu, ↓Zbv, ↓Zbw, ↓Zbx, ↓Zby, ↓Zbz, ↓Zca, ↓Zcb, ↓Zcc, ↓Zcd, ↓Zce, ↓Zcf, ↓Zcg, ↓Zch, ↓Zci, ↓Zcj, ↓Zck, ↓Zcl, ↓Zcm, ↓Zcn, ↓Zco, ↓Zcp, ↓Zcq, ↓Zcr, ↓Zcs, ↓Zct, ↓Zcu, ↓Zcv, ↓Zcw, ↓Zcx, ↓Zcy, ↓Zcz, ↓Zda, ↓Zdb, ↓Zdc, ↓Zdd, ↓Zde, ↓Zdf, ↓Zdg, ↓Zdh, ↓Zdi, ↓Zdj, ↓Zdk, ↓Zdl, ↓Zdm, ↓Zdn, ↓Zdo, ↓Zdp, ↓Zdq, ↓Zdr, ↓Zds, ↓Zdt, ↓Zdu, ↓Zdv, ↓Zdw, ↓Zdx, ↓Zdy, ↓Zdz, ↓Zea, ↓Zeb, ↓Zec, ↓Zed, ↓Zee, ↓Zef, ↓Zeg, ↓Zeh, ↓Zei, ↓Zej, ↓Zek, ↓Zel, ↓Zem, ↓Zen, ↓Zeo, ↓Zep, ↓Zeq, ↓Zer, ↓Zes, ↓Zet, ↓Zeu, ↓Zev, ↓Zew, ↓Zex, ↓Zey, ↓Zez, ↓Zfa, ↓Zfb, ↓Zfc, ↓Zfd, ↓Zfe, ↓Zff, ↓Zfg, ↓Zfh, ↓Zfi, ↓Zfj, ↓Zfk, ↓Zfl, ↓Zfm, ↓Zfn, ↓Zfo, ↓Zfp, ↓Zfq, ↓Zfr, ↓Zfs, ↓Zft, ↓Zfu, ↓Zfv, ↓Zfw, ↓Zfx, ↓Zfy, ↓Zfz, ↓Zga, ↓Zgb, ↓Zgc, ↓Zgd, ↓Zge, ↓Zgf, ↓Zgg, ↓Zgh, ↓Zgi, ↓Zgj, ↓Zgk, ↓Zgl, ↓Zgm, ↓Zgn, ↓Zgo, ↓Zgp, ↓Zgq, ↓Zgr, ↓Zgs, ↓Zgt, ↓Zgu, ↓Zgv, ↓Zgw, ↓Zgx, ↓Zgy, ↓Zgz, ↓Zha, ↓Zhb, ↓Zhc, ↓Zhd, ↓Zhe, ↓Zhf, ↓Zhg, ↓Zhh, ↓Zhi, ↓Zhj, ↓Zhk, ↓Zhl, ↓Zhm, ↓Zhn, ↓Zho, ↓Zhp, ↓Zhq, ↓Zhr, ↓Zhs, ↓Zht, ↓Zhu, ↓Zhv, ↓Zhw, ↓Zhx, ↓Zhy, ↓Zhz, ↓Zia, ↓Zib, ↓Zic, ↓Zid, ↓Zie, ↓Zif, ↓Zig, ↓Zih, ↓Zii, ↓Zij, ↓Zik, ↓Zil, ↓Zim, ↓Zin, ↓Zio, ↓Ziq, ↓Zir, ↓Zis, ↓Zit, ↓Ziu, ↓Ziv, ↓Ziw, ↓Zix, ↓Ziy, ↓Ziz, ↓Zja, ↓Zjb, ↓Zjc, ↓Zjd, ↓Zje, ↓Zjf, ↓Zjg, ↓Zjh, ↓Zji, ↓Zjj, ↓Zjk, ↓Zjl, ↓Zjm, ↓Zjn, ↓Zjo, ↓Zjp, ↓Zjq, ↓Zjr, ↓Zjs, ↓Zjt, ↓Zju, ↓Zjv, ↓Zjw, ↓Zjx, ↓Zjy, ↓Zjz, ↓Zka, ↓Zkb, ↓Zkc, ↓Zkd, ↓Zke, ↓Zkf, ↓Zkg, ↓Zkh, ↓Zki, ↓Zkj, ↓Zkk, ↓Zkl, ↓Zkm, ↓Zkn, ↓Zko, ↓Zkp, ↓Zkq, ↓Zkr, ↓Zks, ↓Zkt, ↓Zku, ↓Zkv, ↓Zkw, ↓Zkx, ↓Zky, ↓Zkz, reduceIte, if_true, if_false, Bool.false_eq_true, Bool.and_true, Bool.true_and, Bool.and_false, Bool.false_and, Bool.or_true, Bool.true_or, Bool.or_false, Bool.false_or, Int.cast_ofNat_Int, Zla, Zlb, beq_self_eq_true, Int.reduceBEq, Int.reduceLT, Int.reduceLE, Int.reduceEq, Int.reduceNeg, Nat.reduceLT, Zlc, Zld, Zle, Zlf, Zlg, Zlh, Zli, Zlj, Zlk, Zll, Zlm, Zln, Zlo, Zlp, Zlq, Zlr, Zls, Zlt, Zlu, Zlv, Zlw, Zlx, Zly, Zlz, Zma, Zmb, Zmc, Zmd, Zme, Zmf, Zmg, Zmh, Zmi, Zmj, Zmk, Zml, Zmm, Zmn, Zmo, Zmp, Zmq, Zmr, Zms, Zmt, Zmu, Zmv, Zmw, Zmx, Zmy, Zmz, Zna, Znb, Znc, Znd, Zne, Znf, Zng, Znh, Zni, Znj, Znk, Znl, Znm, Znn, Zno, List.lookup_nil, Znp, Znq, Option.map_some, Option.map_none, Option.bind_some, Option.bind_none, List.map_nil, List.map_cons, List.nil_append, List.cons_append, List.append_nil, List.length_cons, List.length_nil, Nat.reduceAdd, Nat.reduceLeDiff, Nat.reduceEqDiff, Nat.reduceBEq, decide_true, decide_false, Bool.not_true, Bool.not_false, Znr, Zns, Znt, Znu, Znv, Znw, Znx, Zny, Znz, Zoa, Zob, Zoc, Zod, Zoe, List.getElem?_cons_zero, List.getElem?_cons_succ, Zof, Zog, Zoh, Zoi, Zoj, Zok, Zol, Zom, Zon, Zoo, Zop, Zoq, Zor, Zos, Zot, Zou, Zov, Zow, Zox, Zoy, setX, Zoz, Zpa, Zpb, Int.ofNat_lt, Int.ofNat_le, Zpc, Zpd, Zpe, Zpf, Zpg, Zph, q_check hw, q_isinteger, e1, e1', e2, bLen_s hl2, q_local hw (by omega) (show c ≤ w.length by omega)]
theorem least_per {w : List Nat} (h : 0 < w.length) : ∃ p, 1 ≤ p ∧ p ≤ w.length ∧ Per w p ∧ (∀ q, 1 ≤ q → Per w q → p ≤ q) ∧ atI (perD w) 0 = some (.int (p : Int)) := by
  cases hL : (List.range w.length).filter fun i => decide (Per w (i + 1)) with
  | nil =>
    have : w.length - 1 ∈ (List.range w.length).filter fun i => decide (Per w (i + 1)) := by
      rw [List.mem_filter, List.mem_range, decide_eq_true_iff, show w.length - 1 + 1 = w.length by omega]
      exact ⟨by omega, per_len⟩
    rw [hL] at this
    cases this
  | cons a l =>
    have ha : a ∈ (List.range w.length).filter fun i => decide (Per w (i + 1)) := by rw [hL]; exact List.mem_cons_self ..
    rw [List.mem_filter, List.mem_range, decide_eq_true_iff] at ha
    have hs : (a :: l).Pairwise (· < ·) := by rw [← hL]; exact sorted_filter
    rw [List.pairwise_cons] at hs
    refine ⟨a + 1, by omega, by omega, ha.2, fun q hq hp => ?_, ?_⟩
    · by_cases hq2 : q ≤ w.length
      · have : q - 1 ∈ (List.range w.length).filter fun i => decide (Per w (i + 1)) := by
          rw [List.mem_filter, List.mem_range, decide_eq_true_iff, show q - 1 + 1 = q by omega]
          exact ⟨by omega, hp⟩
        rw [hL] at this
        rcases List.mem_cons.mp this with e | e
        · omega
        · have := hs.1 _ e; omega
      · omega
    · unfold perD
      rw [hL, List.map_cons, Zls, Nat.add_comm]
noncomputable def critL (w : List Nat) (p : Nat) : List Nat := (List.range (w.length - 1)).filter fun i => decide (lp w (1 + i) = p)
noncomputable abbrev critD (w : List Nat) (p : Nat) : List D := (critL w p).map fun i => .int ((1 + i : Nat) : Int)
theorem q_cuts {w : List Nat} (hw : Wd w) {p : Nat} (hn : 2 ≤ w.length) (hp : atI (perD w) 0 = some (.int (p : Int))) : φ_critical_cuts [.val (.str w)] = .ok (.d (.tup (critD w p))) [] := by
  apply run_critical_cuts
  unfold g_critical_cuts
  have hl := hw.len
  have hl2 : w.length ≤ 16777216 := by omega
  have e1 : decide ((w.length : Int) < 2) = false := decide_eq_false (by omega)
  have s1 : smI (1 : Int) = true := smI_ok (n := 1) (by decide)
  have s2 := smI_ok (show w.length ≤ 16777216 by omega)
  simp -implicitDefEqProofs -dsimp only [↓Zaa, ↓Zab, ↓Zac, ↓Zad, ↓Zae, ↓Zaf, ↓Zag, ↓Zah, ↓Zai, ↓Zaj, ↓Zak, ↓Zal, ↓Zam, ↓Zan, ↓Zao, ↓Zap, ↓Zaq, ↓Zar, ↓Zas, ↓Zat, ↓Zau, ↓Zav, ↓Zaw, ↓Zax, ↓Zay, ↓Zaz, ↓Zba, ↓Zbb, ↓Zbc, ↓Zbd, ↓Zbe, ↓Zbf, ↓Zbg, ↓Zbh, ↓Zbi, ↓Zbj, ↓Zbk, ↓Zbl, ↓Zbm, ↓Zbn, ↓Zbo, ↓Zbp, ↓Zbq, ↓Zbr, ↓Zbs, ↓Zbt, ↓Zbu, ↓Zbv, ↓Zbw, ↓Zbx, ↓Zby, ↓Zbz, ↓Zca, ↓Zcb, ↓Zcc, ↓Zcd, ↓Zce, ↓Zcf, ↓Zcg, ↓Zch, ↓Zci, ↓Zcj, ↓Zck, ↓Zcl, ↓Zcm, ↓Zcn, ↓Zco, ↓Zcp, ↓Zcq, ↓Zcr, ↓Zcs, ↓Zct, ↓Zcu, ↓Zcv, ↓Zcw, ↓Zcx, ↓Zcy, ↓Zcz, ↓Zda, ↓Zdb, ↓Zdc, ↓Zdd, ↓Zde, ↓Zdf, ↓Zdg, ↓Zdh, ↓Zdi, ↓Zdj, ↓Zdk, ↓Zdl, ↓Zdm, ↓Zdn, ↓Zdo, ↓Zdp, ↓Zdq, ↓Zdr, ↓Zds, ↓Zdt, ↓Zdu, ↓Zdv, ↓Zdw, ↓Zdx, ↓Zdy, ↓Zdz, ↓Zea, ↓Zeb, ↓Zec, ↓Zed, ↓Zee, ↓Zef, ↓Zeg, ↓Zeh, ↓Zei, ↓Zej, ↓Zek, ↓Zel, ↓Zem, ↓Zen, ↓Zeo, ↓Zep, ↓Zeq, ↓Zer, ↓Zes, ↓Zet, ↓Zeu, ↓Zev, ↓Zew, ↓Zex, ↓Zey, ↓Zez, ↓Zfa, ↓Zfb, ↓Zfc, ↓Zfd, ↓Zfe, ↓Zff, ↓Zfg, ↓Zfh, ↓Zfi, ↓Zfj, ↓Zfk, ↓Zfl, ↓Zfm, ↓Zfn, ↓Zfo, ↓Zfp, ↓Zfq, ↓Zfr, ↓Zfs, ↓Zft, ↓Zfu, ↓Zfv, ↓Zfw, ↓Zfx, ↓Zfy, ↓Zfz, ↓Zga, ↓Zgb, ↓Zgc, ↓Zgd, ↓Zge, ↓Zgf, ↓Zgg, ↓Zgh, ↓Zgi, ↓Zgj, ↓Zgk, ↓Zgl, ↓Zgm, ↓Zgn, ↓Zgo, ↓Zgp, ↓Zgq, ↓Zgr, ↓Zgs, ↓Zgt, ↓Zgu, ↓Zgv, ↓Zgw, ↓Zgx, ↓Zgy, ↓Zgz, ↓Zha, ↓Zhb, ↓Zhc, ↓Zhd, ↓Zhe, ↓Zhf, ↓Zhg, ↓Zhh, ↓Zhi, ↓Zhj, ↓Zhk, ↓Zhl, ↓Zhm, ↓Zhn, ↓Zho, ↓Zhp, ↓Zhq, ↓Zhr, ↓Zhs, ↓Zht, ↓Zhu, ↓Zhv, ↓Zhw, ↓Zhx, ↓Zhy, ↓Zhz, ↓Zia, ↓Zib, ↓Zic, ↓Zid, ↓Zie, ↓Zif, ↓Zig, ↓Zih, ↓Zii, ↓Zij, ↓Zik, ↓Zil, ↓Zim, ↓Zin, ↓Zio, ↓Ziq, ↓Zir, ↓Zis, ↓Zit, ↓Ziu, ↓Ziv, ↓Ziw, ↓Zix, ↓Ziy, ↓Ziz, ↓Zja, ↓Zjb, ↓Zjc, ↓Zjd, ↓Zje, ↓Zjf, ↓Zjg, ↓Zjh, ↓Zji, ↓Zjj, ↓Zjk, ↓Zjl, ↓Zjm, ↓Zjn, ↓Zjo, ↓Zjp, ↓Zjq, ↓Zjr, ↓Zjs, ↓Zjt, ↓Zju, ↓Zjv, ↓Zjw, ↓Zjx, ↓Zjy, ↓Zjz, ↓Zka, ↓Zkb, ↓Zkc, ↓Zkd, ↓Zke, ↓Zkf, ↓Zkg, ↓Zkh, ↓Zki, ↓Zkj, ↓Zkk, ↓Zkl, ↓Zkm, ↓Zkn, ↓Zko, ↓Zkp, ↓Zkq, ↓Zkr, ↓Zks, ↓Zkt, ↓Zku, ↓Zkv, ↓Zkw, ↓Zkx, ↓Zky, ↓Zkz, reduceIte, if_true, if_false, Bool.false_eq_true, Bool.and_true, Bool.true_and, Bool.and_false, Bool.false_and, Bool.or_true, Bool.true_or, Bool.or_false, Bool.false_or, Int.cast_ofNat_Int, Zla, Zlb, beq_self_eq_true, Int.reduceBEq, Int.reduceLT, Int.reduceLE, Int.reduceEq, Int.reduceNeg, Nat.reduceLT, Zlc, Zld, Zle, Zlf, Zlg, Zlh, Zli, Zlj, Zlk, Zll, Zlm, Zln, Zlo, Zlp, Zlq, Zlr, Zls, Zlt, Zlu, Zlv, Zlw, Zlx, Zly, Zlz, Zma, Zmb, Zmc, Zmd, Zme, Zmf, Zmg, Zmh, Zmi, Zmj, Zmk, Zml, Zmm, Zmn, Zmo, Zmp, Zmq, Zmr, Zms, Zmt, Zmu, Zmv, Zmw, Zmx, Zmy, Zmz, Zna, Znb, Znc, Znd, Zne, Znf, Zng, Znh, Zni, Znj, Znk, Znl, Znm, Znn, Zno, List.lookup_nil, Znp, Znq, Option.map_some, Option.map_none, Option.bind_some, Option.bind_none, List.map_nil, List.map_cons, List.nil_append, List.cons_append, List.append_nil, List.length_cons, List.length_nil, Nat.reduceAdd, Nat.reduceLeDiff, Nat.reduceEqDiff, Nat.reduceBEq, decide_true, decide_false, Bool.not_true, Bool.not_false, Znr, Zns, Znt, Znu, Znv, Znw, Znx, Zny, Znz, Zoa, Zob, Zoc, Zod, Zoe, List.getElem?_cons_zero, List.getElem?_cons_succ, Zof, Zog, Zoh, Zoi, Zoj, Zok, Zol, Zom, Zon, Zoo, Zop, Zoq, Zor, Zos, Zot, Zou, Zov, Zow, Zox, Zoy, setX, Zoz, Zpa, Zpb, Int.ofNat_lt, Int.ofNat_le, Zpc, Zpd, Zpe, Zpf, Zpg, Zph, q_check hw, bLen_s hl2, e1, q_pers hw, hp, s1, s2]
  rw [rngG (lo := 1) (a := 1) (k := w.length - 1) rfl (by omega)]
  refine lc_filter (l := List.range (w.length - 1)) (g := fun i => .int ((1 + i : Nat) : Int)) (fun i => decide (lp w (1 + i) = p)) (fun i => .int ((1 + i : Nat) : Int)) rfl (by simp; omega) (fun i hi => ?_) ?_
  · have hi := List.mem_range.mp hi
    simp only [wipeE, List.set_cons_zero, List.set_cons_succ]
    by_cases h : lp w (1 + i) = p
    · have e2 : ((lp w (1 + i) : Int) == (p : Int)) = true := by rw [h]; simp
      simp -implicitDefEqProofs -dsimp only [↓Zaa, ↓Zab, ↓Zac, ↓Zad, ↓Zae, ↓Zaf, ↓Zag, ↓Zah, ↓Zai, ↓Zaj, ↓Zak, ↓Zal, ↓Zam, ↓Zan, ↓Zao, ↓Zap, ↓Zaq, ↓Zar, ↓Zas, ↓Zat, ↓Zau, ↓Zav, ↓Zaw, ↓Zax, ↓Zay, ↓Zaz, ↓Zba, ↓Zbb, ↓Zbc, ↓Zbd, ↓Zbe, ↓Zbf, ↓Zbg, ↓Zbh, ↓Zbi, ↓Zbj, ↓Zbk, ↓Zbl, ↓Zbm, ↓Zbn, ↓Zbo, ↓Zbp, ↓Zbq, ↓Zbr, ↓Zbs, ↓Zbt, ↓Zbu, ↓Zbv, ↓Zbw, ↓Zbx, ↓Zby, ↓Zbz, ↓Zca, ↓Zcb, ↓Zcc, ↓Zcd, ↓Zce, ↓Zcf, ↓Zcg, ↓Zch, ↓Zci, ↓Zcj, ↓Zck, ↓Zcl, ↓Zcm, ↓Zcn, ↓Zco, ↓Zcp, ↓Zcq, ↓Zcr, ↓Zcs, ↓Zct, ↓Zcu, ↓Zcv, ↓Zcw, ↓Zcx, ↓Zcy, ↓Zcz, ↓Zda, ↓Zdb, ↓Zdc, ↓Zdd, ↓Zde, ↓Zdf, ↓Zdg, ↓Zdh, ↓Zdi, ↓Zdj, ↓Zdk, ↓Zdl, ↓Zdm, ↓Zdn, ↓Zdo, ↓Zdp, ↓Zdq, ↓Zdr, ↓Zds, ↓Zdt, ↓Zdu, ↓Zdv, ↓Zdw, ↓Zdx, ↓Zdy, ↓Zdz, ↓Zea, ↓Zeb, ↓Zec, ↓Zed, ↓Zee, ↓Zef, ↓Zeg, ↓Zeh, ↓Zei, ↓Zej, ↓Zek, ↓Zel, ↓Zem, ↓Zen, ↓Zeo, ↓Zep, ↓Zeq, ↓Zer, ↓Zes, ↓Zet, ↓Zeu, ↓Zev, ↓Zew, ↓Zex, ↓Zey, ↓Zez, ↓Zfa, ↓Zfb, ↓Zfc, ↓Zfd, ↓Zfe, ↓Zff, ↓Zfg, ↓Zfh, ↓Zfi, ↓Zfj, ↓Zfk, ↓Zfl, ↓Zfm, ↓Zfn, ↓Zfo, ↓Zfp, ↓Zfq, ↓Zfr, ↓Zfs, ↓Zft, ↓Zfu, ↓Zfv, ↓Zfw, ↓Zfx, ↓Zfy, ↓Zfz, ↓Zga, ↓Zgb, ↓Zgc, ↓Zgd, ↓Zge, ↓Zgf, ↓Zgg, ↓Zgh, ↓Zgi, ↓Zgj, ↓Zgk, ↓Zgl, ↓Zgm, ↓Zgn, ↓Zgo, ↓Zgp, ↓Zgq, ↓Zgr, ↓Zgs, ↓Zgt, ↓Zgu, ↓Zgv, ↓Zgw, ↓Zgx, ↓Zgy, ↓Zgz, ↓Zha, ↓Zhb, ↓Zhc, ↓Zhd, ↓Zhe, ↓Zhf, ↓Zhg, ↓Zhh, ↓Zhi, ↓Zhj, ↓Zhk, ↓Zhl, ↓Zhm, ↓Zhn, ↓Zho, ↓Zhp, ↓Zhq, ↓Zhr, ↓Zhs, ↓Zht, ↓Zhu, ↓Zhv, ↓Zhw, ↓Zhx, ↓Zhy, ↓Zhz, ↓Zia, ↓Zib, ↓Zic, ↓Zid, ↓Zie, ↓Zif, ↓Zig, ↓Zih, ↓Zii, ↓Zij, ↓Zik, ↓Zil, ↓Zim, ↓Zin, ↓Zio, ↓Ziq, ↓Zir, ↓Zis, ↓Zit, ↓Ziu, ↓Ziv, ↓Ziw, ↓Zix, ↓Ziy, ↓Ziz, ↓Zja, ↓Zjb, ↓Zjc, ↓Zjd, ↓Zje, ↓Zjf, ↓Zjg, ↓Zjh, ↓Zji, ↓Zjj, ↓Zjk, ↓Zjl, ↓Zjm, ↓Zjn, ↓Zjo, ↓Zjp, ↓Zjq, ↓Zjr, ↓Zjs, ↓Zjt, ↓Zju, ↓Zjv, ↓Zjw, ↓Zjx, ↓Zjy, ↓Zjz, ↓Zka, ↓Zkb, ↓Zkc, ↓Zkd, ↓Zke, ↓Zkf, ↓Zkg, ↓Zkh, ↓Zki, ↓Zkj, ↓Zkk, ↓Zkl, ↓Zkm, ↓Zkn, ↓Zko, ↓Zkp, ↓Zkq, ↓Zkr, ↓Zks, ↓Zkt, ↓Zku, ↓Zkv, ↓Zkw, ↓Zkx, ↓Zky, ↓Zkz, reduceIte, if_true, if_false, Bool.false_eq_true, Bool.and_true, Bool.true_and, Bool.and_false, Bool.false_and, Bool.or_true, Bool.true_or, Bool.or_false, Bool.false_or, Int.cast_ofNat_Int, Zla, Zlb, beq_self_eq_true, Int.reduceBEq, Int.reduceLT, Int.reduceLE, Int.reduceEq, Int.reduceNeg, Nat.reduceLT, Zlc, Zld, Zle, Zlf, Zlg, Zlh, Zli, Zlj, Zlk, Zll, Zlm, Zln, Zlo, Zlp, Zlq, Zlr, Zls, Zlt, Zlu, Zlv, Zlw, Zlx, Zly, Zlz, Zma, Zmb, Zmc, Zmd, Zme, Zmf, Zmg, Zmh, Zmi, Zmj, Zmk, Zml, Zmm, Zmn, Zmo, Zmp, Zmq, Zmr, Zms, Zmt, Zmu, Zmv, Zmw, Zmx, Zmy, Zmz, Zna, Znb, Znc, Znd, Zne, Znf, Zng, Znh, Zni, Znj, Znk, Znl, Znm, Znn, Zno, List.lookup_nil, Znp, Znq, Option.map_some, Option.map_none, Option.bind_some, Option.bind_none, List.map_nil, List.map_cons, List.nil_append, List.cons_append, List.append_nil, List.length_cons, List.length_nil, Nat.reduceAdd, Nat.reduceLeDiff, Nat.reduceEqDiff, Nat.reduceBEq, decide_true, decide_false, Bool.not_true, Bool.not_false, Znr, Zns, Znt, Znu, Znv, Znw, Znx, Zny, Znz, Zoa, Zob, Zoc, Zod, Zoe, List.getElem?_cons_zero, List.getElem?_cons_succ, Zof, Zog, Zoh, Zoi, Zoj, Zok, Zol, Zom, Zon, Zoo, Zop, Zoq, Zor, Zos, Zot, Zou, Zov, Zow, Zox, Zoy, setX, Zoz, Zpa, Zpb, Int.ofNat_lt, Int.ofNat_le, Zpc, Zpd, Zpe, Zpf, Zpg, Zph, q_local hw (by omega) (show 1 + i ≤ w.length by omega), e2, decide_eq_true h]
      first | exact ⟨rfl, rfl, trivial⟩ | exact ⟨_, rfl, rfl, rfl, rfl⟩ | exact ⟨rfl, rfl, rfl⟩
    · have e2 : ((lp w (1 + i) : Int) == (p : Int)) = false := by simp; omega
      simp -implicitDefEqProofs -dsimp only [↓Zaa, ↓Zab, ↓Zac, ↓Zad, ↓Zae, ↓Zaf, ↓Zag, ↓Zah, ↓Zai, ↓Zaj, ↓Zak, ↓Zal, ↓Zam, ↓Zan, ↓Zao, ↓Zap, ↓Zaq, ↓Zar, ↓Zas, ↓Zat, ↓Zau, ↓Zav, ↓Zaw, ↓Zax, ↓Zay, ↓Zaz, ↓Zba, ↓Zbb, ↓Zbc, ↓Zbd, ↓Zbe, ↓Zbf, ↓Zbg, ↓Zbh, ↓Zbi, ↓Zbj, ↓Zbk, ↓Zbl, ↓Zbm, ↓Zbn, ↓Zbo, ↓Zbp, ↓Zbq, ↓Zbr, ↓Zbs, ↓Zbt, ↓Zbu, ↓Zbv, ↓Zbw, ↓Zbx, ↓Zby, ↓Zbz, ↓Zca, ↓Zcb, ↓Zcc, ↓Zcd, ↓Zce, ↓Zcf, ↓Zcg, ↓Zch, ↓Zci, ↓Zcj, ↓Zck, ↓Zcl, ↓Zcm, ↓Zcn, ↓Zco, ↓Zcp, ↓Zcq, ↓Zcr, ↓Zcs, ↓Zct, ↓Zcu, ↓Zcv, ↓Zcw, ↓Zcx, ↓Zcy, ↓Zcz, ↓Zda, ↓Zdb, ↓Zdc, ↓Zdd, ↓Zde, ↓Zdf, ↓Zdg, ↓Zdh, ↓Zdi, ↓Zdj, ↓Zdk, ↓Zdl, ↓Zdm, ↓Zdn, ↓Zdo, ↓Zdp, ↓Zdq, ↓Zdr, ↓Zds, ↓Zdt, ↓Zdu, ↓Zdv, ↓Zdw, ↓Zdx, ↓Zdy, ↓Zdz, ↓Zea, ↓Zeb, ↓Zec, ↓Zed, ↓Zee, ↓Zef, ↓Zeg, ↓Zeh, ↓Zei, ↓Zej, ↓Zek, ↓Zel, ↓Zem, ↓Zen, ↓Zeo, ↓Zep, ↓Zeq, ↓Zer, ↓Zes, ↓Zet, ↓Zeu, ↓Zev, ↓Zew, ↓Zex, ↓Zey, ↓Zez, ↓Zfa, ↓Zfb, ↓Zfc, ↓Zfd, ↓Zfe, ↓Zff, ↓Zfg, ↓Zfh, ↓Zfi, ↓Zfj, ↓Zfk, ↓Zfl, ↓Zfm, ↓Zfn, ↓Zfo, ↓Zfp, ↓Zfq, ↓Zfr, ↓Zfs, ↓Zft, ↓Zfu, ↓Zfv, ↓Zfw, ↓Zfx, ↓Zfy, ↓Zfz, ↓Zga, ↓Zgb, ↓Zgc, ↓Zgd, ↓Zge, ↓Zgf, ↓Zgg, ↓Zgh, ↓Zgi, ↓Zgj, ↓Zgk, ↓Zgl, ↓Zgm, ↓Zgn, ↓Zgo, ↓Zgp, ↓Zgq, ↓Zgr, ↓Zgs, ↓Zgt, ↓Zgu, ↓Zgv, ↓Zgw, ↓Zgx, ↓Zgy, ↓Zgz, ↓Zha, ↓Zhb, ↓Zhc, ↓Zhd, ↓Zhe, ↓Zhf, ↓Zhg, ↓Zhh, ↓Zhi, ↓Zhj, ↓Zhk, ↓Zhl, ↓Zhm, ↓Zhn, ↓Zho, ↓Zhp, ↓Zhq, ↓Zhr, ↓Zhs, ↓Zht, ↓Zhu, ↓Zhv, ↓Zhw, ↓Zhx, ↓Zhy, ↓Zhz, ↓Zia, ↓Zib, ↓Zic, ↓Zid, ↓Zie, ↓Zif, ↓Zig, ↓Zih, ↓Zii, ↓Zij, ↓Zik, ↓Zil, ↓Zim, ↓Zin, ↓Zio, ↓Ziq, ↓Zir, ↓Zis, ↓Zit, ↓Ziu, ↓Ziv, ↓Ziw, ↓Zix, ↓Ziy, ↓Ziz, ↓Zja, ↓Zjb, ↓Zjc, ↓Zjd, ↓Zje, ↓Zjf, ↓Zjg, ↓Zjh, ↓Zji, ↓Zjj, ↓Zjk, ↓Zjl, ↓Zjm, ↓Zjn, ↓Zjo, ↓Zjp, ↓Zjq, ↓Zjr, ↓Zjs, ↓Zjt, ↓Zju, ↓Zjv, ↓Zjw, ↓Zjx, ↓Zjy, ↓Zjz, ↓Zka, ↓Zkb, ↓Zkc, ↓Zkd, ↓Zke, ↓Zkf, ↓Zkg, ↓Zkh, ↓Zki, ↓Zkj, ↓Zkk, ↓Zkl, ↓Zkm, ↓Zkn, ↓Zko, ↓Zkp, ↓Zkq, ↓Zkr, ↓Zks, ↓Zkt, ↓Zku, ↓Zkv, ↓Zkw, ↓Zkx, ↓Zky, ↓Zkz, reduceIte, if_true, if_false, Bool.false_eq_true, Bool.and_true, Bool.true_and, Bool.and_false, Bool.false_and, Bool.or_true, Bool.true_or, Bool.or_false, Bool.false_or, Int.cast_ofNat_Int, Zla, Zlb, beq_self_eq_true, Int.reduceBEq, Int.reduceLT, Int.reduceLE, Int.reduceEq, Int.reduceNeg, Nat.reduceLT, Zlc, Zld, Zle, Zlf, Zlg, Zlh, Zli, Zlj, Zlk, Zll, Zlm, Zln, Zlo, Zlp, Zlq, Zlr, Zls, Zlt, Zlu, Zlv, Zlw, Zlx, Zly, Zlz, Zma, Zmb, Zmc, Zmd, Zme, Zmf, Zmg, Zmh, Zmi, Zmj, Zmk, Zml, Zmm, Zmn, Zmo, Zmp, Zmq, Zmr, Zms, Zmt, Zmu, Zmv, Zmw, Zmx, Zmy, Zmz, Zna, Znb, Znc, Znd, Zne, Znf, Zng, Znh, Zni, Znj, Znk, Znl, Znm, Znn, Zno, List.lookup_nil, Znp, Znq, Option.map_some, Option.map_none, Option.bind_some, Option.bind_none, List.map_nil, List.map_cons, List.nil_append, List.cons_append, List.append_nil, List.length_cons, List.length_nil, Nat.reduceAdd, Nat.reduceLeDiff, Nat.reduceEqDiff, Nat.reduceBEq, decide_true, decide_false, Bool.not_true, Bool.not_false, Znr, Zns, Znt, Znu, Znv, Znw, Znx, Zny, Znz, Zoa, Zob, Zoc, Zod, Zoe, List.getElem?_cons_zero, List.getElem?_cons_succ, Zof, Zog, Zoh, Zoi, Zoj, Zok, Zol, Zom, Zon, Zoo, Zop, Zoq, Zor, Zos, Zot, Zou, Zov, Zow, Zox, Zoy, setX, Zoz, Zpa, Zpb, Int.ofNat_lt, Int.ofNat_le, Zpc, Zpd, Zpe, Zpf, Zpg, Zph, q_local hw (by omega) (show 1 + i ≤ w.length by omega), e2, decide_eq_false h]
      first | exact ⟨rfl, rfl, trivial⟩ | exact ⟨_, rfl, rfl, rfl, rfl⟩ | exact ⟨rfl, rfl, rfl⟩
  · simp -implicitDefEqProofs -dsimp only [↓Zaa, ↓Zab, ↓Zac, ↓Zad, ↓Zae, ↓Zaf, ↓Zag, ↓Zah, ↓Zai, ↓Zaj, ↓Zak, ↓Zal, ↓Zam, ↓Zan, ↓Zao, ↓Zap, ↓Zaq, ↓Zar, ↓Zas, ↓Zat, ↓Zau, ↓Zav, ↓Zaw, ↓Zax, ↓Zay, ↓Zaz, ↓Zba, ↓Zbb, ↓Zbc, ↓Zbd, ↓Zbe, ↓Zbf, ↓Zbg, ↓Zbh, ↓Zbi, ↓Zbj, ↓Zbk, ↓Zbl, ↓Zbm, ↓Zbn, ↓Zbo, ↓Zbp, ↓Zbq, ↓Zbr, ↓Zbs, ↓Zbt, ↓Zbu, ↓Zbv, ↓Zbw, ↓Zbx, ↓Zby, ↓Zbz, ↓Zca, ↓Zcb, ↓Zcc, ↓Zcd, ↓Zce, ↓Zcf, ↓Zcg, ↓Zch, ↓Zci, ↓Zcj, ↓Zck, ↓Zcl, ↓Zcm, ↓Zcn, ↓Zco, ↓Zcp, ↓Zcq, ↓Zcr, ↓Zcs, ↓Zct, ↓Zcu, ↓Zcv, ↓Zcw, ↓Zcx, ↓Zcy, ↓Zcz, ↓Zda, ↓Zdb, ↓Zdc, ↓Zdd, ↓Zde, ↓Zdf, ↓Zdg, ↓Zdh, ↓Zdi, ↓Zdj, ↓Zdk, ↓Zdl, ↓Zdm, ↓Zdn, ↓Zdo, ↓Zdp, ↓Zdq, ↓Zdr, ↓Zds, ↓Zdt, ↓Zdu, ↓Zdv, ↓Zdw, ↓Zdx, ↓Zdy, ↓Zdz, ↓Zea, ↓Zeb, ↓Zec, ↓Zed, ↓Zee, ↓Zef, ↓Zeg, ↓Zeh, ↓Zei, ↓Zej, ↓Zek, ↓Zel, ↓Zem, ↓Zen, ↓Zeo, ↓Zep, ↓Zeq, ↓Zer, ↓Zes, ↓Zet, ↓Zeu, ↓Zev, ↓Zew, ↓Zex, ↓Zey, ↓Zez, ↓Zfa, ↓Zfb, ↓Zfc, ↓Zfd, ↓Zfe, ↓Zff, ↓Zfg, ↓Zfh, ↓Zfi, ↓Zfj, ↓Zfk, ↓Zfl, ↓Zfm, ↓Zfn, ↓Zfo, ↓Zfp, ↓Zfq, ↓Zfr, ↓Zfs, ↓Zft, ↓Zfu, ↓Zfv, ↓Zfw, ↓Zfx, ↓Zfy, ↓Zfz, ↓Zga, ↓Zgb, ↓Zgc, ↓Zgd, ↓Zge, ↓Zgf, ↓Zgg, ↓Zgh, ↓Zgi, ↓Zgj, ↓Zgk, ↓Zgl, ↓Zgm, ↓Zgn, ↓Zgo, ↓Zgp, ↓Zgq, ↓Zgr, ↓Zgs, ↓Zgt, ↓Zgu, ↓Zgv, ↓Zgw, ↓Zgx, ↓Zgy, ↓Zgz, ↓Zha, ↓Zhb, ↓Zhc, ↓Zhd, ↓Zhe, ↓Zhf, ↓Zhg, ↓Zhh, ↓Zhi, ↓Zhj, ↓Zhk, ↓Zhl, ↓Zhm, ↓Zhn, ↓Zho, ↓Zhp, ↓Zhq, ↓Zhr, ↓Zhs, ↓Zht, ↓Zhu, ↓Zhv, ↓Zhw, ↓Zhx, ↓Zhy, ↓Zhz, ↓Zia, ↓Zib, ↓Zic, ↓Zid, ↓Zie, ↓Zif, ↓Zig, ↓Zih, ↓Zii, ↓Zij, ↓Zik, ↓Zil, ↓Zim, ↓Zin, ↓Zio, ↓Ziq, ↓Zir, ↓Zis, ↓Zit, ↓Ziu, ↓Ziv, ↓Ziw, ↓Zix, ↓Ziy, ↓Ziz, ↓Zja, ↓Zjb, ↓Zjc, ↓Zjd, ↓Zje, ↓Zjf, ↓Zjg, ↓Zjh, ↓Zji, ↓Zjj, ↓Zjk, ↓Zjl, ↓Zjm, ↓Zjn, ↓Zjo, ↓Zjp, ↓Zjq, ↓Zjr, ↓Zjs, ↓Zjt, ↓Zju, ↓Zjv, ↓Zjw, ↓Zjx, ↓Zjy, ↓Zjz, ↓Zka, ↓Zkb, ↓Zkc, ↓Zkd, ↓Zke, ↓Zkf, ↓Zkg, ↓Zkh, ↓Zki, ↓Zkj, ↓Zkk, ↓Zkl, ↓Zkm, ↓Zkn, ↓Zko, ↓Zkp, ↓Zkq, ↓Zkr, ↓Zks, ↓Zkt, ↓Zku, ↓Zkv, ↓Zkw, ↓Zkx, ↓Zky, ↓Zkz, reduceIte, if_true, if_false, Bool.false_eq_true, Bool.and_true, Bool.true_and, Bool.and_false, Bool.false_and, Bool.or_true, Bool.true_or, Bool.or_false, Bool.false_or, Int.cast_ofNat_Int, Zla, Zlb, beq_self_eq_true, Int.reduceBEq, Int.reduceLT, Int.reduceLE, Int.reduceEq, Int.reduceNeg, Nat.reduceLT, Zlc, Zld, Zle, Zlf, Zlg, Zlh, Zli, Zlj, Zlk, Zll, Zlm, Zln, Zlo, Zlp, Zlq, Zlr, Zls, Zlt, Zlu, Zlv, Zlw, Zlx, Zly, Zlz, Zma, Zmb, Zmc, Zmd, Zme, Zmf, Zmg, Zmh, Zmi, Zmj, Zmk, Zml, Zmm, Zmn, Zmo, Zmp, Zmq, Zmr, Zms, Zmt, Zmu, Zmv, Zmw, Zmx, Zmy, Zmz, Zna, Znb, Znc, Znd, Zne, Znf, Zng, Znh, Zni, Znj, Znk, Znl, Znm, Znn, Zno, List.lookup_nil, Znp, Znq, Option.map_some, Option.map_none, Option.bind_some, Option.bind_none, List.map_nil, List.map_cons, List.nil_append, List.cons_append, List.append_nil, List.length_cons, List.length_nil, Nat.reduceAdd, Nat.reduceLeDiff, Nat.reduceEqDiff, Nat.reduceBEq, decide_true, decide_false, Bool.not_true, Bool.not_false, Znr, Zns, Znt, Znu, Znv, Znw, Znx, Zny, Znz, Zoa, Zob, Zoc, Zod, Zoe, List.getElem?_cons_zero, List.getElem?_cons_succ, Zof, Zog, Zoh, Zoi, Zoj, Zok, Zol, Zom, Zon, Zoo, Zop, Zoq, Zor, Zos, Zot, Zou, Zov, Zow, Zox, Zoy, setX, Zoz, Zpa, Zpb, Int.ofNat_lt, Int.ofNat_le, Zpc, Zpd, Zpe, Zpf, Zpg, Zph]
    rfl
theorem q_cuts0 {w : List Nat} (hw : Wd w) (hn : w.length < 2) : φ_critical_cuts [.val (.str w)] = .ok (.d (.tup [])) [] := by
  apply run_critical_cuts
  unfold g_critical_cuts
  have hl2 : w.length ≤ 16777216 := by omega
  have e1 : decide ((w.length : Int) < 2) = true := decide_eq_true (by omega)
  simp -implicitDefEqProofs -dsimp only [↓Zaa, ↓Zab, ↓Zac, ↓Zad, ↓Zae, ↓Zaf, ↓Zag, ↓Zah, ↓Zai, ↓Zaj, ↓Zak, ↓Zal, ↓Zam, ↓Zan, ↓Zao, ↓Zap, ↓Zaq, ↓Zar, ↓Zas, ↓Zat, ↓Zau, ↓Zav, ↓Zaw, ↓Zax, ↓Zay, ↓Zaz, ↓Zba, ↓Zbb, ↓Zbc, ↓Zbd, ↓Zbe, ↓Zbf, ↓Zbg, ↓Zbh, ↓Zbi, ↓Zbj, ↓Zbk, ↓Zbl, ↓Zbm, ↓Zbn, ↓Zbo, ↓Zbp, ↓Zbq, ↓Zbr, ↓Zbs, ↓Zbt, ↓Zbu, ↓Zbv, ↓Zbw, ↓Zbx, ↓Zby, ↓Zbz, ↓Zca, ↓Zcb, ↓Zcc, ↓Zcd, ↓Zce, ↓Zcf, ↓Zcg, ↓Zch, ↓Zci, ↓Zcj, ↓Zck, ↓Zcl, ↓Zcm, ↓Zcn, ↓Zco, ↓Zcp, ↓Zcq, ↓Zcr, ↓Zcs, ↓Zct, ↓Zcu, ↓Zcv, ↓Zcw, ↓Zcx, ↓Zcy, ↓Zcz, ↓Zda, ↓Zdb, ↓Zdc, ↓Zdd, ↓Zde, ↓Zdf, ↓Zdg, ↓Zdh, ↓Zdi, ↓Zdj, ↓Zdk, ↓Zdl, ↓Zdm, ↓Zdn, ↓Zdo, ↓Zdp, ↓Zdq, ↓Zdr, ↓Zds, ↓Zdt, ↓Zdu, ↓Zdv, ↓Zdw, ↓Zdx, ↓Zdy, ↓Zdz, ↓Zea, ↓Zeb, ↓Zec, ↓Zed, ↓Zee, ↓Zef, ↓Zeg, ↓Zeh, ↓Zei, ↓Zej, ↓Zek, ↓Zel, ↓Zem, ↓Zen, ↓Zeo, ↓Zep, ↓Zeq, ↓Zer, ↓Zes, ↓Zet, ↓Zeu, ↓Zev, ↓Zew, ↓Zex, ↓Zey, ↓Zez, ↓Zfa, ↓Zfb, ↓Zfc, ↓Zfd, ↓Zfe, ↓Zff, ↓Zfg, ↓Zfh, ↓Zfi, ↓Zfj, ↓Zfk, ↓Zfl, ↓Zfm, ↓Zfn, ↓Zfo, ↓Zfp, ↓Zfq, ↓Zfr, ↓Zfs, ↓Zft, ↓Zfu, ↓Zfv, ↓Zfw, ↓Zfx, ↓Zfy, ↓Zfz, ↓Zga, ↓Zgb, ↓Zgc, ↓Zgd, ↓Zge, ↓Zgf, ↓Zgg, ↓Zgh, ↓Zgi, ↓Zgj, ↓Zgk, ↓Zgl, ↓Zgm, ↓Zgn, ↓Zgo, ↓Zgp, ↓Zgq, ↓Zgr, ↓Zgs, ↓Zgt, ↓Zgu, ↓Zgv, ↓Zgw, ↓Zgx, ↓Zgy, ↓Zgz, ↓Zha, ↓Zhb, ↓Zhc, ↓Zhd, ↓Zhe, ↓Zhf, ↓Zhg, ↓Zhh, ↓Zhi, ↓Zhj, ↓Zhk, ↓Zhl, ↓Zhm, ↓Zhn, ↓Zho, ↓Zhp, ↓Zhq, ↓Zhr, ↓Zhs, ↓Zht, ↓Zhu, ↓Zhv, ↓Zhw, ↓Zhx, ↓Zhy, ↓Zhz, ↓Zia, ↓Zib, ↓Zic, ↓Zid, ↓Zie, ↓Zif, ↓Zig, ↓Zih, ↓Zii, ↓Zij, ↓Zik, ↓Zil, ↓Zim, ↓Zin, ↓Zio, ↓Ziq, ↓Zir, ↓Zis, ↓Zit, ↓Ziu, ↓Ziv, ↓Ziw, ↓Zix, ↓Ziy, ↓Ziz, ↓Zja, ↓Zjb, ↓Zjc, ↓Zjd, ↓Zje, ↓Zjf, ↓Zjg, ↓Zjh, ↓Zji, ↓Zjj, ↓Zjk, ↓Zjl, ↓Zjm, ↓Zjn, ↓Zjo, ↓Zjp, ↓Zjq, ↓Zjr, ↓Zjs, ↓Zjt, ↓Zju, ↓Zjv, ↓Zjw, ↓Zjx, ↓Zjy, ↓Zjz, ↓Zka, ↓Zkb, ↓Zkc, ↓Zkd, ↓Zke, ↓Zkf, ↓Zkg, ↓Zkh, ↓Zki, ↓Zkj, ↓Zkk, ↓Zkl, ↓Zkm, ↓Zkn, ↓Zko, ↓Zkp, ↓Zkq, ↓Zkr, ↓Zks, ↓Zkt, ↓Zku, ↓Zkv, ↓Zkw, ↓Zkx, ↓Zky, ↓Zkz, reduceIte, if_true, if_false, Bool.false_eq_true, Bool.and_true, Bool.true_and, Bool.and_false, Bool.false_and, Bool.or_true, Bool.true_or, Bool.or_false, Bool.false_or, Int.cast_ofNat_Int, Zla, Zlb, beq_self_eq_true, Int.reduceBEq, Int.reduceLT, Int.reduceLE, Int.reduceEq, Int.reduceNeg, Nat.reduceLT, Zlc, Zld, Zle, Zlf, Zlg, Zlh, Zli, Zlj, Zlk, Zll, Zlm, Zln, Zlo, Zlp, Zlq, Zlr, Zls, Zlt, Zlu, Zlv, Zlw, Zlx, Zly, Zlz, Zma, Zmb, Zmc, Zmd, Zme, Zmf, Zmg, Zmh, Zmi, Zmj, Zmk, Zml, Zmm, Zmn, Zmo, Zmp, Zmq, Zmr, Zms, Zmt, Zmu, Zmv, Zmw, Zmx, Zmy, Zmz, Zna, Znb, Znc, Znd, Zne, Znf, Zng, Znh, Zni, Znj, Znk, Znl, Znm, Znn, Zno, List.lookup_nil, Znp, Znq, Option.map_some, Option.map_none, Option.bind_some, Option.bind_none, List.map_nil, List.map_cons, List.nil_append, List.cons_append, List.append_nil, List.length_cons, List.length_nil, Nat.reduceAdd, Nat.reduceLeDiff, Nat.reduceEqDiff, Nat.reduceBEq, decide_true, decide_false, Bool.not_true, Bool.not_false, Znr, Zns, Znt, Znu, Znv, Znw, Znx, Zny, Znz, Zoa, Zob, Zoc, Zod, Zoe, List.getElem?_cons_zero, List.getElem?_cons_succ, Zof, Zog, Zoh, Zoi, Zoj, Zok, Zol, Zom, Zon, Zoo, Zop, Zoq, Zor, Zos, Zot, Zou, Zov, Zow, Zox, Zoy, setX, Zoz, Zpa, Zpb, Int.ofNat_lt, Int.ofNat_le, Zpc, Zpd, Zpe, Zpf, Zpg, Zph, q_check hw, bLen_s hl2, e1]
end L2.S.W

set_option Elab.async false
set_option linter.all false
set_option maxRecDepth 100000
set_option maxHeartbeats 8000000
namespace L2.S.W
open PySem PySem.Spec PyProof.Rows L2 L2.S
theorem brd_slice {w : List Nat} {k : Nat} (hk : k < w.length) : w.take k = w.drop (w.length - k) ↔ Brd w w.length k := by
  rw [brd_per hk, ← per_slice, show w.length - (w.length - k) = k by omega]
  exact ⟨fun h => h.symm, fun h => h.symm⟩
theorem per_rev {w : List Nat} : (((List.range w.length).filter fun i => decide (Per w (i + 1))).reverse.map fun i => w.length - (1 + i)) = brdL w := by
  refine sorted_ext ?_ sorted_filter fun x => ?_
  · rw [List.pairwise_map, List.pairwise_reverse]
    have h : ((List.range w.length).filter fun i => decide (Per w (i + 1))).Pairwise (· < ·) := sorted_filter
    refine (List.Pairwise.and_mem.mp h).imp fun {a b} hab => ?_
    obtain ⟨h1, h2, h3⟩ := hab
    have := List.mem_range.mp (List.mem_filter.mp h1).1
    have := List.mem_range.mp (List.mem_filter.mp h2).1
    omega
  · rw [mem_brdL, List.mem_map]
    constructor
    · rintro ⟨i, hi, rfl⟩
      obtain ⟨h1, h2⟩ := List.mem_filter.mp (List.mem_reverse.mp hi)
      have h1 := List.mem_range.mp h1
      rw [decide_eq_true_iff] at h2
      rw [brd_per (by omega), show w.length - (w.length - (1 + i)) = i + 1 by omega]
      exact h2
    · intro h
      have hx := h.1
      refine ⟨w.length - x - 1, ?_, by omega⟩
      rw [List.mem_reverse, List.mem_filter, List.mem_range, decide_eq_true_iff, show w.length - x - 1 + 1 = w.length - x by omega]
      exact ⟨by omega, (brd_per hx).mp h⟩
theorem crit_head {w : List Nat} (hw : Wd w) (hn : 2 ≤ w.length) {p : Nat} (h1 : 1 ≤ p) (h2 : p ≤ w.length) (hp : Per w p) (hm : ∀ q, 1 ≤ q → Per w q → p ≤ q) : ∃ a l, ((List.range (w.length - 1)).filter fun i => decide (lp w (1 + i) = p)) = a :: l ∧ 1 + a ≤ max 1 (p - 1) := by
  have ex : ∃ c, 0 < c ∧ c < w.length ∧ lp w c = p ∧ c ≤ max 1 (p - 1) := by
    by_cases q : Per w 1
    · have e : p = 1 := by have := hm 1 (by omega) q; omega
      obtain ⟨g1, g2, g3, g4⟩ := lp_spec (w := w) (c := 1) (by omega)
      refine ⟨1, by omega, by omega, ?_, by omega⟩
      apply Classical.byContradiction
      intro hne
      exact g4 1 (by omega) (by omega) q.loc
    · obtain ⟨c, c1, c2, c3⟩ := crit (w := w) (fun c hc => by have := hw.low c hc; omega) hn q
      obtain ⟨g1, g2, g3, g4⟩ := lp_spec (w := w) (c := c) (by omega)
      obtain ⟨d1, d2⟩ := c3 _ (by omega) g1
      have a1 := hm _ (by omega) d2
      have a2 : lp w c ≤ p := by
        apply Classical.byContradiction
        intro hne
        exact g4 p h1 (by omega) hp.loc
      exact ⟨c, c1, c2, by omega, by omega⟩
  obtain ⟨c, c1, c2, c3, c4⟩ := ex
  have hmem : c - 1 ∈ (List.range (w.length - 1)).filter fun i => decide (lp w (1 + i) = p) := by
    rw [List.mem_filter, List.mem_range, decide_eq_true_iff, show 1 + (c - 1) = c by omega]
    exact ⟨by omega, c3⟩
  have hs : ((List.range (w.length - 1)).filter fun i => decide (lp w (1 + i) = p)).Pairwise (· < ·) := sorted_filter
  cases hL : (List.range (w.length - 1)).filter fun i => decide (lp w (1 + i) = p) with
  | nil => rw [hL] at hmem; cases hmem
  | cons a l =>
    rw [hL] at hmem hs
    rw [List.pairwise_cons] at hs
    refine ⟨a, l, rfl, ?_⟩
    rcases List.mem_cons.mp hmem with e | e
    · omega
    · have := hs.1 _ e; omega
theorem q_asked {w : List Nat} (hw : Wd w) : φ_law_asked [.val (.str w)] = .ok (.d (.bl true)) [] := by
  apply run_law_asked
  unfold g_law_asked
  have hl := hw.len
  have hl2 : w.length ≤ 16777216 := by omega
  have s0 := smI_ok hl2
  have s1 : smI (1 : Int) = true := smI_ok (n := 1) (by decide)
  have flen : ((List.range w.length).filter fun i => decide (Per w (i + 1))).length ≤ w.length := Nat.le_trans (List.length_filter_le ..) (by simp)
  have blen : ((List.range w.length).filter fun k => decide (Brd w w.length k)).length ≤ w.length := Nat.le_trans (List.length_filter_le ..) (by simp)
  have i1 := q_ints (l := (List.range w.length).filter fun i => decide (Per w (i + 1))) (f := fun i => ((1 + i : Nat) : Int)) (by omega)
  have i2 := q_ints (l := (List.range w.length).filter fun k => decide (Brd w w.length k)) (f := fun i => (i : Int)) (by omega)
  have qb := q_borders hw
  have pr := per_rev (w := w)
  unfold brdD at qb
  unfold brdL at qb pr
  have hp : ∃ p, 0 < w.length → 1 ≤ p ∧ p ≤ w.length ∧ Per w p ∧ (∀ q, 1 ≤ q → Per w q → p ≤ q) ∧ atI (perD w) 0 = some (.int (p : Int)) := by
    by_cases h : 0 < w.length
    · obtain ⟨p, hp⟩ := least_per h
      exact ⟨p, fun _ => hp⟩
    · exact ⟨0, fun h' => (h h').elim⟩
  obtain ⟨p, hp⟩ := hp
  simp -implicitDefEqProofs -dsimp only [↓Zaa, ↓Zab, ↓Zac, ↓Zad, ↓Zae, ↓Zaf, ↓Zag, ↓Zah, ↓Zai, ↓Zaj, ↓Zak, ↓Zal, ↓Zam, ↓Zan, ↓Zao, ↓Zap, ↓Zaq, ↓Zar, ↓Zas, ↓Zat, ↓Zau, ↓Zav, ↓Zaw, ↓Zax, ↓Zay, ↓Zaz, ↓Zba, ↓Zbb, ↓Zbc, ↓Zbd, ↓Zbe, ↓Zbf, ↓Zbg, ↓Zbh, ↓Zbi, ↓Zbj, ↓Zbk, ↓Zbl, ↓Zbm, ↓Zbn, ↓Zbo, ↓Zbp, ↓Zbq, ↓Zbr, ↓Zbs, ↓Zbt, ↓Zbu, ↓Zbv, ↓Zbw, ↓Zbx, ↓Zby, ↓Zbz, ↓Zca, ↓Zcb, ↓Zcc, ↓Zcd, ↓Zce, ↓Zcf, ↓Zcg, ↓Zch, ↓Zci, ↓Zcj, ↓Zck, ↓Zcl, ↓Zcm, ↓Zcn, ↓Zco, ↓Zcp, ↓Zcq, ↓Zcr, ↓Zcs, ↓Zct, ↓Zcu, ↓Zcv, ↓Zcw, ↓Zcx, ↓Zcy, ↓Zcz, ↓Zda, ↓Zdb, ↓Zdc, ↓Zdd, ↓Zde, ↓Zdf, ↓Zdg, ↓Zdh, ↓Zdi, ↓Zdj, ↓Zdk, ↓Zdl, ↓Zdm, ↓Zdn, ↓Zdo, ↓Zdp, ↓Zdq, ↓Zdr, ↓Zds, ↓Zdt, ↓Zdu, ↓Zdv, ↓Zdw, ↓Zdx, ↓Zdy, ↓Zdz, ↓Zea, ↓Zeb, ↓Zec, ↓Zed, ↓Zee, ↓Zef, ↓Zeg, ↓Zeh, ↓Zei, ↓Zej, ↓Zek, ↓Zel, ↓Zem, ↓Zen, ↓Zeo, ↓Zep, ↓Zeq, ↓Zer, ↓Zes, ↓Zet, ↓Zeu, ↓Zev, ↓Zew, ↓Zex, ↓Zey, ↓Zez, ↓Zfa, ↓Zfb, ↓Zfc, ↓Zfd, ↓Zfe, ↓Zff, ↓Zfg, ↓Zfh, ↓Zfi, ↓Zfj, ↓Zfk, ↓Zfl, ↓Zfm, ↓Zfn, ↓Zfo, ↓Zfp, ↓Zfq, ↓Zfr, ↓Zfs, ↓Zft, ↓Zfu, ↓Zfv, ↓Zfw, ↓Zfx, ↓Zfy, ↓Zfz, ↓Zga, ↓Zgb, ↓Zgc, ↓Zgd, ↓Zge, ↓Zgf, ↓Zgg, ↓Zgh, ↓Zgi, ↓Zgj, ↓Zgk, ↓Zgl, ↓Zgm, ↓Zgn, ↓Zgo, ↓Zgp, ↓Zgq, ↓Zgr, ↓Zgs, ↓Zgt, ↓Zgu, ↓Zgv, ↓Zgw, ↓Zgx, ↓Zgy, ↓Zgz, ↓Zha, ↓Zhb, ↓Zhc, ↓Zhd, ↓Zhe, ↓Zhf, ↓Zhg, ↓Zhh, ↓Zhi, ↓Zhj, ↓Zhk, ↓Zhl, ↓Zhm, ↓Zhn, ↓Zho, ↓Zhp, ↓Zhq, ↓Zhr, ↓Zhs, ↓Zht, ↓Zhu, ↓Zhv, ↓Zhw, ↓Zhx, ↓Zhy, ↓Zhz, ↓Zia, ↓Zib, ↓Zic, ↓Zid, ↓Zie, ↓Zif, ↓Zig, ↓Zih, ↓Zii, ↓Zij, ↓Zik, ↓Zil, ↓Zim, ↓Zin, ↓Zio, ↓Ziq, ↓Zir, ↓Zis, ↓Zit, ↓Ziu, ↓Ziv, ↓Ziw, ↓Zix, ↓Ziy, ↓Ziz, ↓Zja, ↓Zjb, ↓Zjc, ↓Zjd, ↓Zje, ↓Zjf, ↓Zjg, ↓Zjh, ↓Zji, ↓Zjj, ↓Zjk, ↓Zjl, ↓Zjm, ↓Zjn, ↓Zjo, ↓Zjp, ↓Zjq, ↓Zjr, ↓Zjs, ↓Zjt, ↓Zju, ↓Zjv, ↓Zjw, ↓Zjx, ↓Zjy, ↓Zjz, ↓Zka, ↓Zkb, ↓Zkc, ↓Zkd, ↓Zke, ↓Zkf, ↓Zkg, ↓Zkh, ↓Zki, ↓Zkj, ↓Zkk, ↓Zkl, ↓Zkm, ↓Zkn, ↓Zko, ↓Zkp, ↓Zkq, ↓Zkr, ↓Zks, ↓Zkt, ↓Zku, ↓Zkv, ↓Zkw, ↓Zkx, ↓Zky, ↓Zkz, reduceIte, if_true, if_false, Bool.false_eq_true, Bool.and_true, Bool.true_and, Bool.and_false, Bool.false_and, Bool.or_true, Bool.true_or, Bool.or_false, Bool.false_or, Int.cast_ofNat_Int, Zla, Zlb, beq_self_eq_true, Int.reduceBEq, Int.reduceLT, Int.reduceLE, Int.reduceEq, Int.reduceNeg, Nat.reduceLT, Zlc, Zld, Zle, Zlf, Zlg, Zlh, Zli, Zlj, Zlk, Zll, Zlm, Zln, Zlo, Zlp, Zlq, Zlr, Zls, Zlt, Zlu, Zlv, Zlw, Zlx, Zly, Zlz, Zma, Zmb, Zmc, Zmd, Zme, Zmf, Zmg, Zmh, Zmi, Zmj, Zmk, Zml, Zmm, Zmn, Zmo, Zmp, Zmq, Zmr, Zms, Zmt, Zmu, Zmv, Zmw, Zmx, Zmy, Zmz, Zna, Znb, Znc, Znd, Zne, Znf, Zng, Znh, Zni, Znj, Znk, Znl, Znm, Znn, Zno, List.lookup_nil, Znp, Znq, Option.map_some, Option.map_none, Option.bind_some, Option.bind_none, List.map_nil, List.map_cons, List.nil_append, List.cons_append, List.append_nil, List.length_cons, List.length_nil, Nat.reduceAdd, Nat.reduceLeDiff, Nat.reduceEqDiff, Nat.reduceBEq, decide_true, decide_false, Bool.not_true, Bool.not_false, Znr, Zns, Znt, Znu, Znv, Znw, Znx, Zny, Znz, Zoa, Zob, Zoc, Zod, Zoe, List.getElem?_cons_zero, List.getElem?_cons_succ, Zof, Zog, Zoh, Zoi, Zoj, Zok, Zol, Zom, Zon, Zoo, Zop, Zoq, Zor, Zos, Zot, Zou, Zov, Zow, Zox, Zoy, setX, Zoz, Zpa, Zpb, Int.ofNat_lt, Int.ofNat_le, Zpc, Zpd, Zpe, Zpf, Zpg, Zph, q_lpers hw, bLen_s hl2, s0]
  rw [rng_vec]
  refine lc_filter (l := List.range w.length) (g := fun i => .int (i : Int)) (fun k => decide (Brd w w.length k)) (fun i => .int (i : Int)) rfl (by simp; omega) (fun i hi => ?_) ?_
  · have hi := List.mem_range.mp hi
    simp only [wipeE, List.set_cons_zero, List.set_cons_succ]
    have ed : (w.length : Int) - (i : Int) = ((w.length - i : Nat) : Int) := by omega
    have c1 : cut w none (some (i : Int)) = w.take i := Zow
    have c2 : cut w (some ((w.length : Int) - (i : Int))) none = w.drop (w.length - i) := by rw [ed]; exact Zox
    have e : (w.take i == w.drop (w.length - i)) = decide (Brd w w.length i) := by
      rw [Bool.eq_iff_iff, beq_iff_eq, decide_eq_true_iff]
      exact brd_slice hi
    by_cases h : Brd w w.length i
    · rw [decide_eq_true h] at e
      simp -implicitDefEqProofs -dsimp only [↓Zaa, ↓Zab, ↓Zac, ↓Zad, ↓Zae, ↓Zaf, ↓Zag, ↓Zah, ↓Zai, ↓Zaj, ↓Zak, ↓Zal, ↓Zam, ↓Zan, ↓Zao, ↓Zap, ↓Zaq, ↓Zar, ↓Zas, ↓Zat, ↓Zau, ↓Zav, ↓Zaw, ↓Zax, ↓Zay, ↓Zaz, ↓Zba, ↓Zbb, ↓Zbc, ↓Zbd, ↓Zbe, ↓Zbf, ↓Zbg, ↓Zbh, ↓Zbi, ↓Zbj, ↓Zbk, ↓Zbl, ↓Zbm, ↓Zbn, ↓Zbo, ↓Zbp, ↓Zbq, ↓Zbr, ↓Zbs, ↓Zbt, ↓Zbu, ↓Zbv, ↓Zbw, ↓Zbx, ↓Zby, ↓Zbz, ↓Zca, ↓Zcb, ↓Zcc, ↓Zcd, ↓Zce, ↓Zcf, ↓Zcg, ↓Zch, ↓Zci, ↓Zcj, ↓Zck, ↓Zcl, ↓Zcm, ↓Zcn, ↓Zco, ↓Zcp, ↓Zcq, ↓Zcr, ↓Zcs, ↓Zct, ↓Zcu, ↓Zcv, ↓Zcw, ↓Zcx, ↓Zcy, ↓Zcz, ↓Zda, ↓Zdb, ↓Zdc, ↓Zdd, ↓Zde, ↓Zdf, ↓Zdg, ↓Zdh, ↓Zdi, ↓Zdj, ↓Zdk, ↓Zdl, ↓Zdm, ↓Zdn, ↓Zdo, ↓Zdp, ↓Zdq, ↓Zdr, ↓Zds, ↓Zdt, ↓Zdu, ↓Zdv, ↓Zdw, ↓Zdx, ↓Zdy, ↓Zdz, ↓Zea, ↓Zeb, ↓Zec, ↓Zed, ↓Zee, ↓Zef, ↓Zeg, ↓Zeh, ↓Zei, ↓Zej, ↓Zek, ↓Zel, ↓Zem, ↓Zen, ↓Zeo, ↓Zep, ↓Zeq, ↓Zer, ↓Zes, ↓Zet, ↓Zeu, ↓Zev, ↓Zew, ↓Zex, ↓Zey, ↓Zez, ↓Zfa, ↓Zfb, ↓Zfc, ↓Zfd, ↓Zfe, ↓Zff, ↓Zfg, ↓Zfh, ↓Zfi, ↓Zfj, ↓Zfk, ↓Zfl, ↓Zfm, ↓Zfn, ↓Zfo, ↓Zfp, ↓Zfq, ↓Zfr, ↓Zfs, ↓Zft, ↓Zfu, ↓Zfv, ↓Zfw, ↓Zfx, ↓Zfy, ↓Zfz, ↓Zga, ↓Zgb, ↓Zgc, ↓Zgd, ↓Zge, ↓Zgf, ↓Zgg, ↓Zgh, ↓Zgi, ↓Zgj, ↓Zgk, ↓Zgl, ↓Zgm, ↓Zgn, ↓Zgo, ↓Zgp, ↓Zgq, ↓Zgr, ↓Zgs, ↓Zgt, ↓Zgu, ↓Zgv, ↓Zgw, ↓Zgx, ↓Zgy, ↓Zgz, ↓Zha, ↓Zhb, ↓Zhc, ↓Zhd, ↓Zhe, ↓Zhf, ↓Zhg, ↓Zhh, ↓Zhi, ↓Zhj, ↓Zhk, ↓Zhl, ↓Zhm, ↓Zhn, ↓Zho, ↓Zhp, ↓Zhq, ↓Zhr, ↓Zhs, ↓Zht, ↓Zhu, ↓Zhv, ↓Zhw, ↓Zhx, ↓Zhy, ↓Zhz, ↓Zia, ↓Zib, ↓Zic, ↓Zid, ↓Zie, ↓Zif, ↓Zig, ↓Zih, ↓Zii, ↓Zij, ↓Zik, ↓Zil, ↓Zim, ↓Zin, ↓Zio, ↓Ziq, ↓Zir, ↓Zis, ↓Zit, ↓Ziu, ↓Ziv, ↓Ziw, ↓Zix, ↓Ziy, ↓Ziz, ↓Zja, ↓Zjb, ↓Zjc, ↓Zjd, ↓Zje, ↓Zjf, ↓Zjg, ↓Zjh, ↓Zji, ↓Zjj, ↓Zjk, ↓Zjl, ↓Zjm, ↓Zjn, ↓Zjo, ↓Zjp, ↓Zjq, ↓Zjr, ↓Zjs, ↓Zjt, ↓Zju, ↓Zjv, ↓Zjw, ↓Zjx, ↓Zjy, ↓Zjz, ↓Zka, ↓Zkb, ↓Zkc, ↓Zkd, ↓Zke, ↓Zkf, ↓Zkg, ↓Zkh, ↓Zki, ↓Zkj, ↓Zkk, ↓Zkl, ↓Zkm, ↓Zkn, ↓Zko, ↓Zkp, ↓Zkq, ↓Zkr, ↓Zks, ↓Zkt, ↓Zku, ↓Zkv, ↓Zkw, ↓Zkx, ↓Zky, ↓Zkz, reduceIte, if_true, if_false, Bool.false_eq_true, Bool.and_true, Bool.true_and, Bool.and_false, Bool.false_and, Bool.or_true, Bool.true_or, Bool.or_false, Bool.false_or, Int.cast_ofNat_Int, Zla, Zlb, beq_self_eq_true, Int.reduceBEq, Int.reduceLT, Int.reduceLE, Int.reduceEq, Int.reduceNeg, Nat.reduceLT, Zlc, Zld, Zle, Zlf, Zlg, Zlh, Zli, Zlj, Zlk, Zll, Zlm, Zln, Zlo, Zlp, Zlq, Zlr, Zls, Zlt, Zlu, Zlv, Zlw, Zlx, Zly, Zlz, Zma, Zmb, Zmc, Zmd, Zme, Zmf, Zmg, Zmh, Zmi, Zmj, Zmk, Zml, Zmm, Zmn, Zmo, Zmp, Zmq, Zmr, Zms, Zmt, Zmu, Zmv, Zmw, Zmx, Zmy, Zmz, Zna, Znb, Znc, Znd, Zne, Znf, Zng, Znh, Zni, Znj, Znk, Znl, Znm, Znn, Zno, List.lookup_nil, Znp, Znq, Option.map_some, Option.map_none, Option.bind_some, Option.bind_none, List.map_nil, List.map_cons, List.nil_append, List.cons_append, List.append_nil, List.length_cons, List.length_nil, Nat.reduceAdd, Nat.reduceLeDiff, Nat.reduceEqDiff, Nat.reduceBEq, decide_true, decide_false, Bool.not_true, Bool.not_false, Znr, Zns, Znt, Znu, Znv, Znw, Znx, Zny, Znz, Zoa, Zob, Zoc, Zod, Zoe, List.getElem?_cons_zero, List.getElem?_cons_succ, Zof, Zog, Zoh, Zoi, Zoj, Zok, Zol, Zom, Zon, Zoo, Zop, Zoq, Zor, Zos, Zot, Zou, Zov, Zow, Zox, Zoy, setX, Zoz, Zpa, Zpb, Int.ofNat_lt, Int.ofNat_le, Zpc, Zpd, Zpe, Zpf, Zpg, Zph, slD_s hl2, ↓c1, ↓c2, bLen_s hl2, e, decide_eq_true h]
      first | exact ⟨rfl, rfl, trivial⟩ | exact ⟨_, rfl, rfl, rfl, rfl⟩ | exact ⟨rfl, rfl, rfl⟩
    · rw [decide_eq_false h] at e
      simp -implicitDefEqProofs -dsimp only [↓Zaa, ↓Zab, ↓Zac, ↓Zad, ↓Zae, ↓Zaf, ↓Zag, ↓Zah, ↓Zai, ↓Zaj, ↓Zak, ↓Zal, ↓Zam, ↓Zan, ↓Zao, ↓Zap, ↓Zaq, ↓Zar, ↓Zas, ↓Zat, ↓Zau, ↓Zav, ↓Zaw, ↓Zax, ↓Zay, ↓Zaz, ↓Zba, ↓Zbb, ↓Zbc, ↓Zbd, ↓Zbe, ↓Zbf, ↓Zbg, ↓Zbh, ↓Zbi, ↓Zbj, ↓Zbk, ↓Zbl, ↓Zbm, ↓Zbn, ↓Zbo, ↓Zbp, ↓Zbq, ↓Zbr, ↓Zbs, ↓Zbt, ↓Zbu, ↓Zbv, ↓Zbw, ↓Zbx, ↓Zby, ↓Zbz, ↓Zca, ↓Zcb, ↓Zcc, ↓Zcd, ↓Zce, ↓Zcf, ↓Zcg, ↓Zch, ↓Zci, ↓Zcj, ↓Zck, ↓Zcl, ↓Zcm, ↓Zcn, ↓Zco, ↓Zcp, ↓Zcq, ↓Zcr, ↓Zcs, ↓Zct, ↓Zcu, ↓Zcv, ↓Zcw, ↓Zcx, ↓Zcy, ↓Zcz, ↓Zda, ↓Zdb, ↓Zdc, ↓Zdd, ↓Zde, ↓Zdf, ↓Zdg, ↓Zdh, ↓Zdi, ↓Zdj, ↓Zdk, ↓Zdl, ↓Zdm, ↓Zdn, ↓Zdo, ↓Zdp, ↓Zdq, ↓Zdr, ↓Zds, ↓Zdt, ↓Zdu, ↓Zdv, ↓Zdw, ↓Zdx, ↓Zdy, ↓Zdz, ↓Zea, ↓Zeb, ↓Zec, ↓Zed, ↓Zee, ↓Zef, ↓Zeg, ↓Zeh, ↓Zei, ↓Zej, ↓Zek, ↓Zel, ↓Zem, ↓Zen, ↓Zeo, ↓Zep, ↓Zeq, ↓Zer, ↓Zes, ↓Zet, ↓Zeu, ↓Zev, ↓Zew, ↓Zex, ↓Zey, ↓Zez, ↓Zfa, ↓Zfb, ↓Zfc, ↓Zfd, ↓Zfe, ↓Zff, ↓Zfg, ↓Zfh, ↓Zfi, ↓Zfj, ↓Zfk, ↓Zfl, ↓Zfm, ↓Zfn, ↓Zfo, ↓Zfp, ↓Zfq, ↓Zfr, ↓Zfs, ↓Zft, ↓Zfu, ↓Zfv, ↓Zfw, ↓Zfx, ↓Zfy, ↓Zfz, ↓Zga, ↓Zgb, ↓Zgc, ↓Zgd, ↓Zge, ↓Zgf, ↓Zgg, ↓Zgh, ↓Zgi, ↓Zgj, ↓Zgk, ↓Zgl, ↓Zgm, ↓Zgn, ↓Zgo, ↓Zgp, ↓Zgq, ↓Zgr, ↓Zgs, ↓Zgt, ↓Zgu, ↓Zgv, ↓Zgw, ↓Zgx, ↓Zgy, ↓Zgz, ↓Zha, ↓Zhb, ↓Zhc, ↓Zhd, ↓Zhe, ↓Zhf, ↓Zhg, ↓Zhh, ↓Zhi, ↓Zhj, ↓Zhk, ↓Zhl, ↓Zhm, ↓Zhn, ↓Zho, ↓Zhp, ↓Zhq, ↓Zhr, ↓Zhs, ↓Zht, ↓Zhu, ↓Zhv, ↓Zhw, ↓Zhx, ↓Zhy, ↓Zhz, ↓Zia, ↓Zib, ↓Zic, ↓Zid, ↓Zie, ↓Zif, ↓Zig, ↓Zih, ↓Zii, ↓Zij, ↓Zik, ↓Zil, ↓Zim, ↓Zin, ↓Zio, ↓Ziq, ↓Zir, ↓Zis, ↓Zit, ↓Ziu, ↓Ziv, ↓Ziw, ↓Zix, ↓Ziy, ↓Ziz, ↓Zja, ↓Zjb, ↓Zjc, ↓Zjd, ↓Zje, ↓Zjf, ↓Zjg, ↓Zjh, ↓Zji, ↓Zjj, ↓Zjk, ↓Zjl, ↓Zjm, ↓Zjn, ↓Zjo, ↓Zjp, ↓Zjq, ↓Zjr, ↓Zjs, ↓Zjt, ↓Zju, ↓Zjv, ↓Zjw, ↓Zjx, ↓Zjy, ↓Zjz, ↓Zka, ↓Zkb, ↓Zkc, ↓Zkd, ↓Zke, ↓Zkf, ↓Zkg, ↓Zkh, ↓Zki, ↓Zkj, ↓Zkk, ↓Zkl, ↓Zkm, ↓Zkn, ↓Zko, ↓Zkp, ↓Zkq, ↓Zkr, ↓Zks, ↓Zkt, ↓Zku, ↓Zkv, ↓Zkw, ↓Zkx, ↓Zky, ↓Zkz, reduceIte, if_true, if_false, Bool.false_eq_true, Bool.and_true, Bool.true_and, Bool.and_false, Bool.false_and, Bool.or_true, Bool.true_or, Bool.or_false, Bool.false_or, Int.cast_ofNat_Int, Zla, Zlb, beq_self_eq_true, Int.reduceBEq, Int.reduceLT, Int.reduceLE, Int.reduceEq, Int.reduceNeg, Nat.reduceLT, Zlc, Zld, Zle, Zlf, Zlg, Zlh, Zli, Zlj, Zlk, Zll, Zlm, Zln, Zlo, Zlp, Zlq, Zlr, Zls, Zlt, Zlu, Zlv, Zlw, Zlx, Zly, Zlz, Zma, Zmb, Zmc, Zmd, Zme, Zmf, Zmg, Zmh, Zmi, Zmj, Zmk, Zml, Zmm, Zmn, Zmo, Zmp, Zmq, Zmr, Zms, Zmt, Zmu, Zmv, Zmw, Zmx, Zmy, Zmz, Zna, Znb, Znc, Znd, Zne, Znf, Zng, Znh, Zni, Znj, Znk, Znl, Znm, Znn, Zno, List.lookup_nil, Znp, Znq, Option.map_some, Option.map_none, Option.bind_some, Option.bind_none, List.map_nil, List.map_cons, List.nil_append, List.cons_append, List.append_nil, List.length_cons, List.length_nil, Nat.reduceAdd, Nat.reduceLeDiff, Nat.reduceEqDiff, Nat.reduceBEq, decide_true, decide_false, Bool.not_true, Bool.not_false, Znr, Zns, Znt, Znu, Znv, Znw, Znx, Zny, Znz, Zoa, Zob, Zoc, Zod, Zoe, List.getElem?_cons_zero, List.getElem?_cons_succ, Zof, Zog, Zoh, Zoi, Zoj, Zok, Zol, Zom, Zon, Zoo, Zop, Zoq, Zor, Zos, Zot, Zou, Zov, Zow, Zox, Zoy, setX, Zoz, Zpa, Zpb, Int.ofNat_lt, Int.ofNat_le, Zpc, Zpd, Zpe, Zpf, Zpg, Zph, slD_s hl2, ↓c1, ↓c2, bLen_s hl2, e, decide_eq_false h]
      first | exact ⟨rfl, rfl, trivial⟩ | exact ⟨_, rfl, rfl, rfl, rfl⟩ | exact ⟨rfl, rfl, rfl⟩
  simp -implicitDefEqProofs -dsimp only [↓Zaa, ↓Zab, ↓Zac, ↓Zad, ↓Zae, ↓Zaf, ↓Zag, ↓Zah, ↓Zai, ↓Zaj, ↓Zak, ↓Zal, ↓Zam, ↓Zan, ↓Zao, ↓Zap, ↓Zaq, ↓Zar, ↓Zas, ↓Zat, ↓Zau, ↓Zav, ↓Zaw, ↓Zax, ↓Zay, ↓Zaz, ↓Zba, ↓Zbb, ↓Zbc, ↓Zbd, ↓Zbe, ↓Zbf, ↓Zbg, ↓Zbh, ↓Zbi, ↓Zbj, ↓Zbk, ↓Zbl, ↓Zbm, ↓Zbn, ↓Zbo, ↓Zbp, ↓Zbq, ↓Zbr, ↓Zbs, ↓Zbt, ↓Zbu, ↓Zbv, ↓Zbw, ↓Zbx, ↓Zby, ↓Zbz, ↓Zca, ↓Zcb, ↓Zcc, ↓Zcd, ↓Zce, ↓Zcf, ↓Zcg, ↓Zch, ↓Zci, ↓Zcj, ↓Zck, ↓Zcl, ↓Zcm, ↓Zcn, ↓Zco, ↓Zcp, ↓Zcq, ↓Zcr, ↓Zcs, ↓Zct, ↓Zcu, ↓Zcv, ↓Zcw, ↓Zcx, ↓Zcy, ↓Zcz, ↓Zda, ↓Zdb, ↓Zdc, ↓Zdd, ↓Zde, ↓Zdf, ↓Zdg, ↓Zdh, ↓Zdi, ↓Zdj, ↓Zdk, ↓Zdl, ↓Zdm, ↓Zdn, ↓Zdo, ↓Zdp, ↓Zdq, ↓Zdr, ↓Zds, ↓Zdt, ↓Zdu, ↓Zdv, ↓Zdw, ↓Zdx, ↓Zdy, ↓Zdz, ↓Zea, ↓Zeb, ↓Zec, ↓Zed, ↓Zee, ↓Zef, ↓Zeg, ↓Zeh, ↓Zei, ↓Zej, ↓Zek, ↓Zel, ↓Zem, ↓Zen, ↓Zeo, ↓Zep, ↓Zeq, ↓Zer, ↓Zes, ↓Zet, ↓Zeu, ↓Zev, ↓Zew, ↓Zex, ↓Zey, ↓Zez, ↓Zfa, ↓Zfb, ↓Zfc, ↓Zfd, ↓Zfe, ↓Zff, ↓Zfg, ↓Zfh, ↓Zfi, ↓Zfj, ↓Zfk, ↓Zfl, ↓Zfm, ↓Zfn, ↓Zfo, ↓Zfp, ↓Zfq, ↓Zfr, ↓Zfs, ↓Zft, ↓Zfu, ↓Zfv, ↓Zfw, ↓Zfx, ↓Zfy, ↓Zfz, ↓Zga, ↓Zgb, ↓Zgc, ↓Zgd, ↓Zge, ↓Zgf, ↓Zgg, ↓Zgh, ↓Zgi, ↓Zgj, ↓Zgk, ↓Zgl, ↓Zgm, ↓Zgn, ↓Zgo, ↓Zgp, ↓Zgq, ↓Zgr, ↓Zgs, ↓Zgt, ↓Zgu, ↓Zgv, ↓Zgw, ↓Zgx, ↓Zgy, ↓Zgz, ↓Zha, ↓Zhb, ↓Zhc, ↓Zhd, ↓Zhe, ↓Zhf, ↓Zhg, ↓Zhh, ↓Zhi, ↓Zhj, ↓Zhk, ↓Zhl, ↓Zhm, ↓Zhn, ↓Zho, ↓Zhp, ↓Zhq, ↓Zhr, ↓Zhs, ↓Zht, ↓Zhu, ↓Zhv, ↓Zhw, ↓Zhx, ↓Zhy, ↓Zhz, ↓Zia, ↓Zib, ↓Zic, ↓Zid, ↓Zie, ↓Zif, ↓Zig, ↓Zih, ↓Zii, ↓Zij, ↓Zik, ↓Zil, ↓Zim, ↓Zin, ↓Zio, ↓Ziq, ↓Zir, ↓Zis, ↓Zit, ↓Ziu, ↓Ziv, ↓Ziw, ↓Zix, ↓Ziy, ↓Ziz, ↓Zja, ↓Zjb, ↓Zjc, ↓Zjd, ↓Zje, ↓Zjf, ↓Zjg, ↓Zjh, ↓Zji, ↓Zjj, ↓Zjk, ↓Zjl, ↓Zjm, ↓Zjn, ↓Zjo, ↓Zjp, ↓Zjq, ↓Zjr, ↓Zjs, ↓Zjt, ↓Zju, ↓Zjv, ↓Zjw, ↓Zjx, ↓Zjy, ↓Zjz, ↓Zka, ↓Zkb, ↓Zkc, ↓Zkd, ↓Zke, ↓Zkf, ↓Zkg, ↓Zkh, ↓Zki, ↓Zkj, ↓Zkk, ↓Zkl, ↓Zkm, ↓Zkn, ↓Zko, ↓Zkp, ↓Zkq, ↓Zkr, ↓Zks, ↓Zkt, ↓Zku, ↓Zkv, ↓Zkw, ↓Zkx, ↓Zky, ↓Zkz, reduceIte, if_true, if_false, Bool.false_eq_true, Bool.and_true, Bool.true_and, Bool.and_false, Bool.false_and, Bool.or_true, Bool.true_or, Bool.or_false, Bool.false_or, Int.cast_ofNat_Int, Zla, Zlb, beq_self_eq_true, Int.reduceBEq, Int.reduceLT, Int.reduceLE, Int.reduceEq, Int.reduceNeg, Nat.reduceLT, Zlc, Zld, Zle, Zlf, Zlg, Zlh, Zli, Zlj, Zlk, Zll, Zlm, Zln, Zlo, Zlp, Zlq, Zlr, Zls, Zlt, Zlu, Zlv, Zlw, Zlx, Zly, Zlz, Zma, Zmb, Zmc, Zmd, Zme, Zmf, Zmg, Zmh, Zmi, Zmj, Zmk, Zml, Zmm, Zmn, Zmo, Zmp, Zmq, Zmr, Zms, Zmt, Zmu, Zmv, Zmw, Zmx, Zmy, Zmz, Zna, Znb, Znc, Znd, Zne, Znf, Zng, Znh, Zni, Znj, Znk, Znl, Znm, Znn, Zno, List.lookup_nil, Znp, Znq, Option.map_some, Option.map_none, Option.bind_some, Option.bind_none, List.map_nil, List.map_cons, List.nil_append, List.cons_append, List.append_nil, List.length_cons, List.length_nil, Nat.reduceAdd, Nat.reduceLeDiff, Nat.reduceEqDiff, Nat.reduceBEq, decide_true, decide_false, Bool.not_true, Bool.not_false, Znr, Zns, Znt, Znu, Znv, Znw, Znx, Zny, Znz, Zoa, Zob, Zoc, Zod, Zoe, List.getElem?_cons_zero, List.getElem?_cons_succ, Zof, Zog, Zoh, Zoi, Zoj, Zok, Zol, Zom, Zon, Zoo, Zop, Zoq, Zor, Zos, Zot, Zou, Zov, Zow, Zox, Zoy, setX, Zoz, Zpa, Zpb, Int.ofNat_lt, Int.ofNat_le, Zpc, Zpd, Zpe, Zpf, Zpg, Zph, q_periods hw, i1, qb, i2]
  have er : (perD w).reverse = ((List.range w.length).filter fun i => decide (Per w (i + 1))).reverse.map fun i => .int ((1 + i : Nat) : Int) := (List.map_reverse ..).symm
  rw [er]
  refine lc_map (l := ((List.range w.length).filter fun i => decide (Per w (i + 1))).reverse) (g := fun i => .int ((1 + i : Nat) : Int)) (fun i => .int ((w.length - (1 + i) : Nat) : Int)) rfl (by rw [List.length_reverse]; omega) (fun i hi => ?_) ?_
  · have hi := List.mem_range.mp (List.mem_filter.mp (List.mem_reverse.mp hi)).1
    simp only [wipeE, List.set_cons_zero, List.set_cons_succ]
    have ed : (w.length : Int) - ((1 + i : Nat) : Int) = ((w.length - (1 + i) : Nat) : Int) := by omega
    simp -implicitDefEqProofs -dsimp only [↓Zaa, ↓Zab, ↓Zac, ↓Zad, ↓Zae, ↓Zaf, ↓Zag, ↓Zah, ↓Zai, ↓Zaj, ↓Zak, ↓Zal, ↓Zam, ↓Zan, ↓Zao, ↓Zap, ↓Zaq, ↓Zar, ↓Zas, ↓Zat, ↓Zau, ↓Zav, ↓Zaw, ↓Zax, ↓Zay, ↓Zaz, ↓Zba, ↓Zbb, ↓Zbc, ↓Zbd, ↓Zbe, ↓Zbf, ↓Zbg, ↓Zbh, ↓Zbi, ↓Zbj, ↓Zbk, ↓Zbl, ↓Zbm, ↓Zbn, ↓Zbo, ↓Zbp, ↓Zbq, ↓Zbr, ↓Zbs, ↓Zbt, ↓Zbu, ↓Zbv, ↓Zbw, ↓Zbx, ↓Zby, ↓Zbz, ↓Zca, ↓Zcb, ↓Zcc, ↓Zcd, ↓Zce, ↓Zcf, ↓Zcg, ↓Zch, ↓Zci, ↓Zcj, ↓Zck, ↓Zcl, ↓Zcm, ↓Zcn, ↓Zco, ↓Zcp, ↓Zcq, ↓Zcr, ↓Zcs, ↓Zct, ↓Zcu, ↓Zcv, ↓Zcw, ↓Zcx, ↓Zcy, ↓Zcz, ↓Zda, ↓Zdb, ↓Zdc, ↓Zdd, ↓Zde, ↓Zdf, ↓Zdg, ↓Zdh, ↓Zdi, ↓Zdj, ↓Zdk, ↓Zdl, ↓Zdm, ↓Zdn, ↓Zdo, ↓Zdp, ↓Zdq, ↓Zdr, ↓Zds, ↓Zdt, ↓Zdu, ↓Zdv, ↓Zdw, ↓Zdx, ↓Zdy, ↓Zdz, ↓Zea, ↓Zeb, ↓Zec, ↓Zed, ↓Zee, ↓Zef, ↓Zeg, ↓Zeh, ↓Zei, ↓Zej, ↓Zek, ↓Zel, ↓Zem, ↓Zen, ↓Zeo, ↓Zep, ↓Zeq, ↓Zer, ↓Zes, ↓Zet, ↓Zeu, ↓Zev, ↓Zew, ↓Zex, ↓Zey, ↓Zez, ↓Zfa, ↓Zfb, ↓Zfc, ↓Zfd, ↓Zfe, ↓Zff, ↓Zfg, ↓Zfh, ↓Zfi, ↓Zfj, ↓Zfk, ↓Zfl, ↓Zfm, ↓Zfn, ↓Zfo, ↓Zfp, ↓Zfq, ↓Zfr, ↓Zfs, ↓Zft, ↓Zfu, ↓Zfv, ↓Zfw, ↓Zfx, ↓Zfy, ↓Zfz, ↓Zga, ↓Zgb, ↓Zgc, ↓Zgd, ↓Zge, ↓Zgf, ↓Zgg, ↓Zgh, ↓Zgi, ↓Zgj, ↓Zgk, ↓Zgl, ↓Zgm, ↓Zgn, ↓Zgo, ↓Zgp, ↓Zgq, ↓Zgr, ↓Zgs, ↓Zgt, ↓Zgu, ↓Zgv, ↓Zgw, ↓Zgx, ↓Zgy, ↓Zgz, ↓Zha, ↓Zhb, ↓Zhc, ↓Zhd, ↓Zhe, ↓Zhf, ↓Zhg, ↓Zhh, ↓Zhi, ↓Zhj, ↓Zhk, ↓Zhl, ↓Zhm, ↓Zhn, ↓Zho, ↓Zhp, ↓Zhq, ↓Zhr, ↓Zhs, ↓Zht, ↓Zhu, ↓Zhv, ↓Zhw, ↓Zhx, ↓Zhy, ↓Zhz, ↓Zia, ↓Zib, ↓Zic, ↓Zid, ↓Zie, ↓Zif, ↓Zig, ↓Zih, ↓Zii, ↓Zij, ↓Zik, ↓Zil, ↓Zim, ↓Zin, ↓Zio, ↓Ziq, ↓Zir, ↓Zis, ↓Zit, ↓Ziu, ↓Ziv, ↓Ziw, ↓Zix, ↓Ziy, ↓Ziz, ↓Zja, ↓Zjb, ↓Zjc, ↓Zjd, ↓Zje, ↓Zjf, ↓Zjg, ↓Zjh, ↓Zji, ↓Zjj, ↓Zjk, ↓Zjl, ↓Zjm, ↓Zjn, ↓Zjo, ↓Zjp, ↓Zjq, ↓Zjr, ↓Zjs, ↓Zjt, ↓Zju, ↓Zjv, ↓Zjw, ↓Zjx, ↓Zjy, ↓Zjz, ↓Zka, ↓Zkb, ↓Zkc, ↓Zkd, ↓Zke, ↓Zkf, ↓Zkg, ↓Zkh, ↓Zki, ↓Zkj, ↓Zkk, ↓Zkl, ↓Zkm, ↓Zkn, ↓Zko, ↓Zkp, ↓Zkq, ↓Zkr, ↓Zks, ↓Zkt, ↓Zku, ↓Zkv, ↓Zkw, ↓Zkx, ↓Zky, ↓Zkz, reduceIte, if_true, if_false, Bool.false_eq_true, Bool.and_true, Bool.true_and, Bool.and_false, Bool.false_and, Bool.or_true, Bool.true_or, Bool.or_false, Bool.false_or, Int.cast_ofNat_Int, Zla, Zlb, beq_self_eq_true, Int.reduceBEq, Int.reduceLT, Int.reduceLE, Int.reduceEq, Int.reduceNeg, Nat.reduceLT, Zlc, Zld, Zle, Zlf, Zlg, Zlh, Zli, Zlj, Zlk, Zll, Zlm, Zln, Zlo, Zlp, Zlq, Zlr, Zls, Zlt, Zlu, Zlv, Zlw, Zlx, Zly, Zlz, Zma, Zmb, Zmc, Zmd, Zme, Zmf, Zmg, Zmh, Zmi, Zmj, Zmk, Zml, Zmm, Zmn, Zmo, Zmp, Zmq, Zmr, Zms, Zmt, Zmu, Zmv, Zmw, Zmx, Zmy, Zmz, Zna, Znb, Znc, Znd, Zne, Znf, Zng, Znh, Zni, Znj, Znk, Znl, Znm, Znn, Zno, List.lookup_nil, Znp, Znq, Option.map_some, Option.map_none, Option.bind_some, Option.bind_none, List.map_nil, List.map_cons, List.nil_append, List.cons_append, List.append_nil, List.length_cons, List.length_nil, Nat.reduceAdd, Nat.reduceLeDiff, Nat.reduceEqDiff, Nat.reduceBEq, decide_true, decide_false, Bool.not_true, Bool.not_false, Znr, Zns, Znt, Znu, Znv, Znw, Znx, Zny, Znz, Zoa, Zob, Zoc, Zod, Zoe, List.getElem?_cons_zero, List.getElem?_cons_succ, Zof, Zog, Zoh, Zoi, Zoj, Zok, Zol, Zom, Zon, Zoo, Zop, Zoq, Zor, Zos, Zot, Zou, Zov, Zow, Zox, Zoy, setX, Zoz, Zpa, Zpb, Int.ofNat_lt, Int.ofNat_le, Zpc, Zpd, Zpe, Zpf, Zpg, Zph, bLen_s hl2, ed]
    exact ⟨rfl, rfl, trivial⟩
  have eL : (((List.range w.length).filter fun i => decide (Per w (i + 1))).reverse.map fun i => D.int ((w.length - (1 + i) : Nat) : Int)) = ((List.range w.length).filter fun k => decide (Brd w w.length k)).map fun k => .int (k : Int) := by
    rw [← pr, List.map_map]
    rfl
  rw [eL]
  simp -implicitDefEqProofs -dsimp only [↓Zaa, ↓Zab, ↓Zac, ↓Zad, ↓Zae, ↓Zaf, ↓Zag, ↓Zah, ↓Zai, ↓Zaj, ↓Zak, ↓Zal, ↓Zam, ↓Zan, ↓Zao, ↓Zap, ↓Zaq, ↓Zar, ↓Zas, ↓Zat, ↓Zau, ↓Zav, ↓Zaw, ↓Zax, ↓Zay, ↓Zaz, ↓Zba, ↓Zbb, ↓Zbc, ↓Zbd, ↓Zbe, ↓Zbf, ↓Zbg, ↓Zbh, ↓Zbi, ↓Zbj, ↓Zbk, ↓Zbl, ↓Zbm, ↓Zbn, ↓Zbo, ↓Zbp, ↓Zbq, ↓Zbr, ↓Zbs, ↓Zbt, ↓Zbu, ↓Zbv, ↓Zbw, ↓Zbx, ↓Zby, ↓Zbz, ↓Zca, ↓Zcb, ↓Zcc, ↓Zcd, ↓Zce, ↓Zcf, ↓Zcg, ↓Zch, ↓Zci, ↓Zcj, ↓Zck, ↓Zcl, ↓Zcm, ↓Zcn, ↓Zco, ↓Zcp, ↓Zcq, ↓Zcr, ↓Zcs, ↓Zct, ↓Zcu, ↓Zcv, ↓Zcw, ↓Zcx, ↓Zcy, ↓Zcz, ↓Zda, ↓Zdb, ↓Zdc, ↓Zdd, ↓Zde, ↓Zdf, ↓Zdg, ↓Zdh, ↓Zdi, ↓Zdj, ↓Zdk, ↓Zdl, ↓Zdm, ↓Zdn, ↓Zdo, ↓Zdp, ↓Zdq, ↓Zdr, ↓Zds, ↓Zdt, ↓Zdu, ↓Zdv, ↓Zdw, ↓Zdx, ↓Zdy, ↓Zdz, ↓Zea, ↓Zeb, ↓Zec, ↓Zed, ↓Zee, ↓Zef, ↓Zeg, ↓Zeh, ↓Zei, ↓Zej, ↓Zek, ↓Zel, ↓Zem, ↓Zen, ↓Zeo, ↓Zep, ↓Zeq, ↓Zer, ↓Zes, ↓Zet, ↓Zeu, ↓Zev, ↓Zew, ↓Zex, ↓Zey, ↓Zez, ↓Zfa, ↓Zfb, ↓Zfc, ↓Zfd, ↓Zfe, ↓Zff, ↓Zfg, ↓Zfh, ↓Zfi, ↓Zfj, ↓Zfk, ↓Zfl, ↓Zfm, ↓Zfn, ↓Zfo, ↓Zfp, ↓Zfq, ↓Zfr, ↓Zfs, ↓Zft, ↓Zfu, ↓Zfv, ↓Zfw, ↓Zfx, ↓Zfy, ↓Zfz, ↓Zga, ↓Zgb, ↓Zgc, ↓Zgd, ↓Zge, ↓Zgf, ↓Zgg, ↓Zgh, ↓Zgi, ↓Zgj, ↓Zgk, ↓Zgl, ↓Zgm, ↓Zgn, ↓Zgo, ↓Zgp, ↓Zgq, ↓Zgr, ↓Zgs, ↓Zgt, ↓Zgu, ↓Zgv, ↓Zgw, ↓Zgx, ↓Zgy, ↓Zgz, ↓Zha, ↓Zhb, ↓Zhc, ↓Zhd, ↓Zhe, ↓Zhf, ↓Zhg, ↓Zhh, ↓Zhi, ↓Zhj, ↓Zhk, ↓Zhl, ↓Zhm, ↓Zhn, ↓Zho, ↓Zhp, ↓Zhq, ↓Zhr, ↓Zhs, ↓Zht, ↓Zhu, ↓Zhv, ↓Zhw, ↓Zhx, ↓Zhy, ↓Zhz, ↓Zia, ↓Zib, ↓Zic, ↓Zid, ↓Zie, ↓Zif, ↓Zig, ↓Zih, ↓Zii, ↓Zij, ↓Zik, ↓Zil, ↓Zim, ↓Zin, ↓Zio, ↓Ziq, ↓Zir, ↓Zis, ↓Zit, ↓Ziu, ↓Ziv, ↓Ziw, ↓Zix, ↓Ziy, ↓Ziz, ↓Zja, ↓Zjb, ↓Zjc, ↓Zjd, ↓Zje, ↓Zjf, ↓Zjg, ↓Zjh, ↓Zji, ↓Zjj, ↓Zjk, ↓Zjl, ↓Zjm, ↓Zjn, ↓Zjo, ↓Zjp, ↓Zjq, ↓Zjr, ↓Zjs, ↓Zjt, ↓Zju, ↓Zjv, ↓Zjw, ↓Zjx, ↓Zjy, ↓Zjz, ↓Zka, ↓Zkb, ↓Zkc, ↓Zkd, ↓Zke, ↓Zkf, ↓Zkg, ↓Zkh, ↓Zki, ↓Zkj, ↓Zkk, ↓Zkl, ↓Zkm, ↓Zkn, ↓Zko, ↓Zkp, ↓Zkq, ↓Zkr, ↓Zks, ↓Zkt, ↓Zku, ↓Zkv, ↓Zkw, ↓Zkx, ↓Zky, ↓Zkz, reduceIte, if_true, if_false, Bool.false_eq_true, Bool.and_true, Bool.true_and, Bool.and_false, Bool.false_and, Bool.or_true, Bool.true_or, Bool.or_false, Bool.false_or, Int.cast_ofNat_Int, Zla, Zlb, beq_self_eq_true, Int.reduceBEq, Int.reduceLT, Int.reduceLE, Int.reduceEq, Int.reduceNeg, Nat.reduceLT, Zlc, Zld, Zle, Zlf, Zlg, Zlh, Zli, Zlj, Zlk, Zll, Zlm, Zln, Zlo, Zlp, Zlq, Zlr, Zls, Zlt, Zlu, Zlv, Zlw, Zlx, Zly, Zlz, Zma, Zmb, Zmc, Zmd, Zme, Zmf, Zmg, Zmh, Zmi, Zmj, Zmk, Zml, Zmm, Zmn, Zmo, Zmp, Zmq, Zmr, Zms, Zmt, Zmu, Zmv, Zmw, Zmx, Zmy, Zmz, Zna, Znb, Znc, Znd, Zne, Znf, Zng, Znh, Zni, Znj, Znk, Znl, Znm, Znn, Zno, List.lookup_nil, Znp, Znq, Option.map_some, Option.map_none, Option.bind_some, Option.bind_none, List.map_nil, List.map_cons, List.nil_append, List.cons_append, List.append_nil, List.length_cons, List.length_nil, Nat.reduceAdd, Nat.reduceLeDiff, Nat.reduceEqDiff, Nat.reduceBEq, decide_true, decide_false, Bool.not_true, Bool.not_false, Znr, Zns, Znt, Znu, Znv, Znw, Znx, Zny, Znz, Zoa, Zob, Zoc, Zod, Zoe, List.getElem?_cons_zero, List.getElem?_cons_succ, Zof, Zog, Zoh, Zoi, Zoj, Zok, Zol, Zom, Zon, Zoo, Zop, Zoq, Zor, Zos, Zot, Zou, Zov, Zow, Zox, Zoy, setX, Zoz, Zpa, Zpb, Int.ofNat_lt, Int.ofNat_le, Zpc, Zpd, Zpe, Zpf, Zpg, Zph, ne_ints (l := (List.range w.length).filter fun k => decide (Brd w w.length k)) (f := fun k => (k : Int)), bLen_s hl2, s1, s0]
  have eR := rngG (lo := 1) (hi := (w.length : Int)) (a := 1) (k := w.length - 1) rfl (by omega)
  rw [eR]
  refine lc_map (l := List.range (w.length - 1)) (g := fun i => .int ((1 + i : Nat) : Int)) (fun i => .int (lp w (1 + i))) rfl (by simp; omega) (fun i hi => ?_) ?_
  · have hi := List.mem_range.mp hi
    simp only [wipeE, List.set_cons_zero, List.set_cons_succ]
    simp -implicitDefEqProofs -dsimp only [↓Zaa, ↓Zab, ↓Zac, ↓Zad, ↓Zae, ↓Zaf, ↓Zag, ↓Zah, ↓Zai, ↓Zaj, ↓Zak, ↓Zal, ↓Zam, ↓Zan, ↓Zao, ↓Zap, ↓Zaq, ↓Zar, ↓Zas, ↓Zat, ↓Zau, ↓Zav, ↓Zaw, ↓Zax, ↓Zay, ↓Zaz, ↓Zba, ↓Zbb, ↓Zbc, ↓Zbd, ↓Zbe, ↓Zbf, ↓Zbg, ↓Zbh, ↓Zbi, ↓Zbj, ↓Zbk, ↓Zbl, ↓Zbm, ↓Zbn, ↓Zbo, ↓Zbp, ↓Zbq, ↓Zbr, ↓Zbs, ↓Zbt, ↓Zbu, ↓Zbv, ↓Zbw, ↓Zbx, ↓Zby, ↓Zbz, ↓Zca, ↓Zcb, ↓Zcc, ↓Zcd, ↓Zce, ↓Zcf, ↓Zcg, ↓Zch, ↓Zci, ↓Zcj, ↓Zck, ↓Zcl, ↓Zcm, ↓Zcn, ↓Zco, ↓Zcp, ↓Zcq, ↓Zcr, ↓Zcs, ↓Zct, ↓Zcu, ↓Zcv, ↓Zcw, ↓Zcx, ↓Zcy, ↓Zcz, ↓Zda, ↓Zdb, ↓Zdc, ↓Zdd, ↓Zde, ↓Zdf, ↓Zdg, ↓Zdh, ↓Zdi, ↓Zdj, ↓Zdk, ↓Zdl, ↓Zdm, ↓Zdn, ↓Zdo, ↓Zdp, ↓Zdq, ↓Zdr, ↓Zds, ↓Zdt, ↓Zdu, ↓Zdv, ↓Zdw, ↓Zdx, ↓Zdy, ↓Zdz, ↓Zea, ↓Zeb, ↓Zec, ↓Zed, ↓Zee, ↓Zef, ↓Zeg, ↓Zeh, ↓Zei, ↓Zej, ↓Zek, ↓Zel, ↓Zem, ↓Zen, ↓Zeo, ↓Zep, ↓Zeq, ↓Zer, ↓Zes, ↓Zet, ↓Zeu, ↓Zev, ↓Zew, ↓Zex, ↓Zey, ↓Zez, ↓Zfa, ↓Zfb, ↓Zfc, ↓Zfd, ↓Zfe, ↓Zff, ↓Zfg, ↓Zfh, ↓Zfi, ↓Zfj, ↓Zfk, ↓Zfl, ↓Zfm, ↓Zfn, ↓Zfo, ↓Zfp, ↓Zfq, ↓Zfr, ↓Zfs, ↓Zft, ↓Zfu, ↓Zfv, ↓Zfw, ↓Zfx, ↓Zfy, ↓Zfz, ↓Zga, ↓Zgb, ↓Zgc, ↓Zgd, ↓Zge, ↓Zgf, ↓Zgg, ↓Zgh, ↓Zgi, ↓Zgj, ↓Zgk, ↓Zgl, ↓Zgm, ↓Zgn, ↓Zgo, ↓Zgp, ↓Zgq, ↓Zgr, ↓Zgs, ↓Zgt, ↓Zgu, ↓Zgv, ↓Zgw, ↓Zgx, ↓Zgy, ↓Zgz, ↓Zha, ↓Zhb, ↓Zhc, ↓Zhd, ↓Zhe, ↓Zhf, ↓Zhg, ↓Zhh, ↓Zhi, ↓Zhj, ↓Zhk, ↓Zhl, ↓Zhm, ↓Zhn, ↓Zho, ↓Zhp, ↓Zhq, ↓Zhr, ↓Zhs, ↓Zht, ↓Zhu, ↓Zhv, ↓Zhw, ↓Zhx, ↓Zhy, ↓Zhz, ↓Zia, ↓Zib, ↓Zic, ↓Zid, ↓Zie, ↓Zif, ↓Zig, ↓Zih, ↓Zii, ↓Zij, ↓Zik, ↓Zil, ↓Zim, ↓Zin, ↓Zio, ↓Ziq, ↓Zir, ↓Zis, ↓Zit, ↓Ziu, ↓Ziv, ↓Ziw, ↓Zix, ↓Ziy, ↓Ziz, ↓Zja, ↓Zjb, ↓Zjc, ↓Zjd, ↓Zje, ↓Zjf, ↓Zjg, ↓Zjh, ↓Zji, ↓Zjj, ↓Zjk, ↓Zjl, ↓Zjm, ↓Zjn, ↓Zjo, ↓Zjp, ↓Zjq, ↓Zjr, ↓Zjs, ↓Zjt, ↓Zju, ↓Zjv, ↓Zjw, ↓Zjx, ↓Zjy, ↓Zjz, ↓Zka, ↓Zkb, ↓Zkc, ↓Zkd, ↓Zke, ↓Zkf, ↓Zkg, ↓Zkh, ↓Zki, ↓Zkj, ↓Zkk, ↓Zkl, ↓Zkm, ↓Zkn, ↓Zko, ↓Zkp, ↓Zkq, ↓Zkr, ↓Zks, ↓Zkt, ↓Zku, ↓Zkv, ↓Zkw, ↓Zkx, ↓Zky, ↓Zkz, reduceIte, if_true, if_false, Bool.false_eq_true, Bool.and_true, Bool.true_and, Bool.and_false, Bool.false_and, Bool.or_true, Bool.true_or, Bool.or_false, Bool.false_or, Int.cast_ofNat_Int, Zla, Zlb, beq_self_eq_true, Int.reduceBEq, Int.reduceLT, Int.reduceLE, Int.reduceEq, Int.reduceNeg, Nat.reduceLT, Zlc, Zld, Zle, Zlf, Zlg, Zlh, Zli, Zlj, Zlk, Zll, Zlm, Zln, Zlo, Zlp, Zlq, Zlr, Zls, Zlt, Zlu, Zlv, Zlw, Zlx, Zly, Zlz, Zma, Zmb, Zmc, Zmd, Zme, Zmf, Zmg, Zmh, Zmi, Zmj, Zmk, Zml, Zmm, Zmn, Zmo, Zmp, Zmq, Zmr, Zms, Zmt, Zmu, Zmv, Zmw, Zmx, Zmy, Zmz, Zna, Znb, Znc, Znd, Zne, Znf, Zng, Znh, Zni, Znj, Znk, Znl, Znm, Znn, Zno, List.lookup_nil, Znp, Znq, Option.map_some, Option.map_none, Option.bind_some, Option.bind_none, List.map_nil, List.map_cons, List.nil_append, List.cons_append, List.append_nil, List.length_cons, List.length_nil, Nat.reduceAdd, Nat.reduceLeDiff, Nat.reduceEqDiff, Nat.reduceBEq, decide_true, decide_false, Bool.not_true, Bool.not_false, Znr, Zns, Znt, Znu, Znv, Znw, Znx, Zny, Znz, Zoa, Zob, Zoc, Zod, Zoe, List.getElem?_cons_zero, List.getElem?_cons_succ, Zof, Zog, Zoh, Zoi, Zoj, Zok, Zol, Zom, Zon, Zoo, Zop, Zoq, Zor, Zos, Zot, Zou, Zov, Zow, Zox, Zoy, setX, Zoz, Zpa, Zpb, Int.ofNat_lt, Int.ofNat_le, Zpc, Zpd, Zpe, Zpf, Zpg, Zph, q_llocal hw (by omega) (show 1 + i ≤ w.length by omega)]
    exact ⟨rfl, rfl, trivial⟩
  have ev : ((List.range (w.length - 1)).map fun i => D.int (lp w (1 + i))) = vec (w.length - 1) fun i => .int (lp w (1 + i)) := rfl
  rw [ev]
  simp -implicitDefEqProofs -dsimp only [↓Zaa, ↓Zab, ↓Zac, ↓Zad, ↓Zae, ↓Zaf, ↓Zag, ↓Zah, ↓Zai, ↓Zaj, ↓Zak, ↓Zal, ↓Zam, ↓Zan, ↓Zao, ↓Zap, ↓Zaq, ↓Zar, ↓Zas, ↓Zat, ↓Zau, ↓Zav, ↓Zaw, ↓Zax, ↓Zay, ↓Zaz, ↓Zba, ↓Zbb, ↓Zbc, ↓Zbd, ↓Zbe, ↓Zbf, ↓Zbg, ↓Zbh, ↓Zbi, ↓Zbj, ↓Zbk, ↓Zbl, ↓Zbm, ↓Zbn, ↓Zbo, ↓Zbp, ↓Zbq, ↓Zbr, ↓Zbs, ↓Zbt, ↓Zbu, ↓Zbv, ↓Zbw, ↓Zbx, ↓Zby, ↓Zbz, ↓Zca, ↓Zcb, ↓Zcc, ↓Zcd, ↓Zce, ↓Zcf, ↓Zcg, ↓Zch, ↓Zci, ↓Zcj, ↓Zck, ↓Zcl, ↓Zcm, ↓Zcn, ↓Zco, ↓Zcp, ↓Zcq, ↓Zcr, ↓Zcs, ↓Zct, ↓Zcu, ↓Zcv, ↓Zcw, ↓Zcx, ↓Zcy, ↓Zcz, ↓Zda, ↓Zdb, ↓Zdc, ↓Zdd, ↓Zde, ↓Zdf, ↓Zdg, ↓Zdh, ↓Zdi, ↓Zdj, ↓Zdk, ↓Zdl, ↓Zdm, ↓Zdn, ↓Zdo, ↓Zdp, ↓Zdq, ↓Zdr, ↓Zds, ↓Zdt, ↓Zdu, ↓Zdv, ↓Zdw, ↓Zdx, ↓Zdy, ↓Zdz, ↓Zea, ↓Zeb, ↓Zec, ↓Zed, ↓Zee, ↓Zef, ↓Zeg, ↓Zeh, ↓Zei, ↓Zej, ↓Zek, ↓Zel, ↓Zem, ↓Zen, ↓Zeo, ↓Zep, ↓Zeq, ↓Zer, ↓Zes, ↓Zet, ↓Zeu, ↓Zev, ↓Zew, ↓Zex, ↓Zey, ↓Zez, ↓Zfa, ↓Zfb, ↓Zfc, ↓Zfd, ↓Zfe, ↓Zff, ↓Zfg, ↓Zfh, ↓Zfi, ↓Zfj, ↓Zfk, ↓Zfl, ↓Zfm, ↓Zfn, ↓Zfo, ↓Zfp, ↓Zfq, ↓Zfr, ↓Zfs, ↓Zft, ↓Zfu, ↓Zfv, ↓Zfw, ↓Zfx, ↓Zfy, ↓Zfz, ↓Zga, ↓Zgb, ↓Zgc, ↓Zgd, ↓Zge, ↓Zgf, ↓Zgg, ↓Zgh, ↓Zgi, ↓Zgj, ↓Zgk, ↓Zgl, ↓Zgm, ↓Zgn, ↓Zgo, ↓Zgp, ↓Zgq, ↓Zgr, ↓Zgs, ↓Zgt, ↓Zgu, ↓Zgv, ↓Zgw, ↓Zgx, ↓Zgy, ↓Zgz, ↓Zha, ↓Zhb, ↓Zhc, ↓Zhd, ↓Zhe, ↓Zhf, ↓Zhg, ↓Zhh, ↓Zhi, ↓Zhj, ↓Zhk, ↓Zhl, ↓Zhm, ↓Zhn, ↓Zho, ↓Zhp, ↓Zhq, ↓Zhr, ↓Zhs, ↓Zht, ↓Zhu, ↓Zhv, ↓Zhw, ↓Zhx, ↓Zhy, ↓Zhz, ↓Zia, ↓Zib, ↓Zic, ↓Zid, ↓Zie, ↓Zif, ↓Zig, ↓Zih, ↓Zii, ↓Zij, ↓Zik, ↓Zil, ↓Zim, ↓Zin, ↓Zio, ↓Ziq, ↓Zir, ↓Zis, ↓Zit, ↓Ziu, ↓Ziv, ↓Ziw, ↓Zix, ↓Ziy, ↓Ziz, ↓Zja, ↓Zjb, ↓Zjc, ↓Zjd, ↓Zje, ↓Zjf, ↓Zjg, ↓Zjh, ↓Zji, ↓Zjj, ↓Zjk, ↓Zjl, ↓Zjm, ↓Zjn, ↓Zjo, ↓Zjp, ↓Zjq, ↓Zjr, ↓Zjs, ↓Zjt, ↓Zju, ↓Zjv, ↓Zjw, ↓Zjx, ↓Zjy, ↓Zjz, ↓Zka, ↓Zkb, ↓Zkc, ↓Zkd, ↓Zke, ↓Zkf, ↓Zkg, ↓Zkh, ↓Zki, ↓Zkj, ↓Zkk, ↓Zkl, ↓Zkm, ↓Zkn, ↓Zko, ↓Zkp, ↓Zkq, ↓Zkr, ↓Zks, ↓Zkt, ↓Zku, ↓Zkv, ↓Zkw, ↓Zkx, ↓Zky, ↓Zkz, reduceIte, if_true, if_false, Bool.false_eq_true, Bool.and_true, Bool.true_and, Bool.and_false, Bool.false_and, Bool.or_true, Bool.true_or, Bool.or_false, Bool.false_or, Int.cast_ofNat_Int, Zla, Zlb, beq_self_eq_true, Int.reduceBEq, Int.reduceLT, Int.reduceLE, Int.reduceEq, Int.reduceNeg, Nat.reduceLT, Zlc, Zld, Zle, Zlf, Zlg, Zlh, Zli, Zlj, Zlk, Zll, Zlm, Zln, Zlo, Zlp, Zlq, Zlr, Zls, Zlt, Zlu, Zlv, Zlw, Zlx, Zly, Zlz, Zma, Zmb, Zmc, Zmd, Zme, Zmf, Zmg, Zmh, Zmi, Zmj, Zmk, Zml, Zmm, Zmn, Zmo, Zmp, Zmq, Zmr, Zms, Zmt, Zmu, Zmv, Zmw, Zmx, Zmy, Zmz, Zna, Znb, Znc, Znd, Zne, Znf, Zng, Znh, Zni, Znj, Znk, Znl, Znm, Znn, Zno, List.lookup_nil, Znp, Znq, Option.map_some, Option.map_none, Option.bind_some, Option.bind_none, List.map_nil, List.map_cons, List.nil_append, List.cons_append, List.append_nil, List.length_cons, List.length_nil, Nat.reduceAdd, Nat.reduceLeDiff, Nat.reduceEqDiff, Nat.reduceBEq, decide_true, decide_false, Bool.not_true, Bool.not_false, Znr, Zns, Znt, Znu, Znv, Znw, Znx, Zny, Znz, Zoa, Zob, Zoc, Zod, Zoe, List.getElem?_cons_zero, List.getElem?_cons_succ, Zof, Zog, Zoh, Zoi, Zoj, Zok, Zol, Zom, Zon, Zoo, Zop, Zoq, Zor, Zos, Zot, Zou, Zov, Zow, Zox, Zoy, setX, Zoz, Zpa, Zpb, Int.ofNat_lt, Int.ofNat_le, Zpc, Zpd, Zpe, Zpf, Zpg, Zph, bLen_s hl2, s1, s0]
  rw [eR]
  refine for_n (n := w.length - 1) (F := fun i => .int ((1 + i : Nat) : Int)) (fun i e => ∃ x6, e = [.val (.str w), .val (.lst (perD w)), .val (.lst (((List.range w.length).filter fun k => decide (Brd w w.length k)).map fun (k : Nat) => .int (k : Int))), .un, .un, .val (.lst (vec (w.length - 1) fun i => .int (lp w (1 + i)))), x6, .un] ∧ Fr1 x6) ?_ ?_ ?_
  · exact ⟨.un, rfl, .un⟩
  · rintro i e hi ⟨x6, rfl, y6⟩
    obtain ⟨p1, p2, p3, p4, p5⟩ := hp (by omega)
    have ei : ((1 + i : Nat) : Int) - 1 = (i : Int) := by omega
    obtain ⟨g1, g2, g3, g4⟩ := lp_spec (w := w) (c := 1 + i) (by omega)
    have a2 : lp w (1 + i) ≤ p := by
      apply Classical.byContradiction
      intro hne
      exact g4 p p1 (by omega) p3.loc
    have eg : decide ((p : Nat) < lp w (1 + i)) = false := decide_eq_false (by omega)
    have eg' : decide ((p : Int) < (lp w (1 + i) : Int)) = false := decide_eq_false (by omega)
    simp -implicitDefEqProofs -dsimp only [↓Zaa, ↓Zab, ↓Zac, ↓Zad, ↓Zae, ↓Zaf, ↓Zag, ↓Zah, ↓Zai, ↓Zaj, ↓Zak, ↓Zal, ↓Zam, ↓Zan, ↓Zao, ↓Zap, ↓Zaq, ↓Zar, ↓Zas, ↓Zat, ↓Zau, ↓Zav, ↓Zaw, ↓Zax, ↓Zay, ↓Zaz, ↓Zba, ↓Zbb, ↓Zbc, ↓Zbd, ↓Zbe, ↓Zbf, ↓Zbg, ↓Zbh, ↓Zbi, ↓Zbj, ↓Zbk, ↓Zbl, ↓Zbm, ↓Zbn, ↓Zbo, ↓Zbp, ↓Zbq, ↓Zbr, ↓Zbs, ↓Zbt, ↓Zbu, ↓Zbv, ↓Zbw, ↓Zbx, ↓Zby, ↓Zbz, ↓Zca, ↓Zcb, ↓Zcc, ↓Zcd, ↓Zce, ↓Zcf, ↓Zcg, ↓Zch, ↓Zci, ↓Zcj, ↓Zck, ↓Zcl, ↓Zcm, ↓Zcn, ↓Zco, ↓Zcp, ↓Zcq, ↓Zcr, ↓Zcs, ↓Zct, ↓Zcu, ↓Zcv, ↓Zcw, ↓Zcx, ↓Zcy, ↓Zcz, ↓Zda, ↓Zdb, ↓Zdc, ↓Zdd, ↓Zde, ↓Zdf, ↓Zdg, ↓Zdh, ↓Zdi, ↓Zdj, ↓Zdk, ↓Zdl, ↓Zdm, ↓Zdn, ↓Zdo, ↓Zdp, ↓Zdq, ↓Zdr, ↓Zds, ↓Zdt, ↓Zdu, ↓Zdv, ↓Zdw, ↓Zdx, ↓Zdy, ↓Zdz, ↓Zea, ↓Zeb, ↓Zec, ↓Zed, ↓Zee, ↓Zef, ↓Zeg, ↓Zeh, ↓Zei, ↓Zej, ↓Zek, ↓Zel, ↓Zem, ↓Zen, ↓Zeo, ↓Zep, ↓Zeq, ↓Zer, ↓Zes, ↓Zet, ↓Zeu, ↓Zev, ↓Zew, ↓Zex, ↓Zey, ↓Zez, ↓Zfa, ↓Zfb, ↓Zfc, ↓Zfd, ↓Zfe, ↓Zff, ↓Zfg, ↓Zfh, ↓Zfi, ↓Zfj, ↓Zfk, ↓Zfl, ↓Zfm, ↓Zfn, ↓Zfo, ↓Zfp, ↓Zfq, ↓Zfr, ↓Zfs, ↓Zft, ↓Zfu, ↓Zfv, ↓Zfw, ↓Zfx, ↓Zfy, ↓Zfz, ↓Zga, ↓Zgb, ↓Zgc, ↓Zgd, ↓Zge, ↓Zgf, ↓Zgg, ↓Zgh, ↓Zgi, ↓Zgj, ↓Zgk, ↓Zgl, ↓Zgm, ↓Zgn, ↓Zgo, ↓Zgp, ↓Zgq, ↓Zgr, ↓Zgs, ↓Zgt, ↓Zgu, ↓Zgv, ↓Zgw, ↓Zgx, ↓Zgy, ↓Zgz, ↓Zha, ↓Zhb, ↓Zhc, ↓Zhd, ↓Zhe, ↓Zhf, ↓Zhg, ↓Zhh, ↓Zhi, ↓Zhj, ↓Zhk, ↓Zhl, ↓Zhm, ↓Zhn, ↓Zho, ↓Zhp, ↓Zhq, ↓Zhr, ↓Zhs, ↓Zht, ↓Zhu, ↓Zhv, ↓Zhw, ↓Zhx, ↓Zhy, ↓Zhz, ↓Zia, ↓Zib, ↓Zic, ↓Zid, ↓Zie, ↓Zif, ↓Zig, ↓Zih, ↓Zii, ↓Zij, ↓Zik, ↓Zil, ↓Zim, ↓Zin, ↓Zio, ↓Ziq, ↓Zir, ↓Zis, ↓Zit, ↓Ziu, ↓Ziv, ↓Ziw, ↓Zix, ↓Ziy, ↓Ziz, ↓Zja, ↓Zjb, ↓Zjc, ↓Zjd, ↓Zje, ↓Zjf, ↓Zjg, ↓Zjh, ↓Zji, ↓Zjj, ↓Zjk, ↓Zjl, ↓Zjm, ↓Zjn, ↓Zjo, ↓Zjp, ↓Zjq, ↓Zjr, ↓Zjs, ↓Zjt, ↓Zju, ↓Zjv, ↓Zjw, ↓Zjx, ↓Zjy, ↓Zjz, ↓Zka, ↓Zkb, ↓Zkc, ↓Zkd, ↓Zke, ↓Zkf, ↓Zkg, ↓Zkh, ↓Zki, ↓Zkj, ↓Zkk, ↓Zkl, ↓Zkm, ↓Zkn, ↓Zko, ↓Zkp, ↓Zkq, ↓Zkr, ↓Zks, ↓Zkt, ↓Zku, ↓Zkv, ↓Zkw, ↓Zkx, ↓Zky, ↓Zkz, reduceIte, if_true, if_false, Bool.false_eq_true, Bool.and_true, Bool.true_and, Bool.and_false, Bool.false_and, Bool.or_true, Bool.true_or, Bool.or_false, Bool.false_or, Int.cast_ofNat_Int, Zla, Zlb, beq_self_eq_true, Int.reduceBEq, Int.reduceLT, Int.reduceLE, Int.reduceEq, Int.reduceNeg, Nat.reduceLT, Zlc, Zld, Zle, Zlf, Zlg, Zlh, Zli, Zlj, Zlk, Zll, Zlm, Zln, Zlo, Zlp, Zlq, Zlr, Zls, Zlt, Zlu, Zlv, Zlw, Zlx, Zly, Zlz, Zma, Zmb, Zmc, Zmd, Zme, Zmf, Zmg, Zmh, Zmi, Zmj, Zmk, Zml, Zmm, Zmn, Zmo, Zmp, Zmq, Zmr, Zms, Zmt, Zmu, Zmv, Zmw, Zmx, Zmy, Zmz, Zna, Znb, Znc, Znd, Zne, Znf, Zng, Znh, Zni, Znj, Znk, Znl, Znm, Znn, Zno, List.lookup_nil, Znp, Znq, Option.map_some, Option.map_none, Option.bind_some, Option.bind_none, List.map_nil, List.map_cons, List.nil_append, List.cons_append, List.append_nil, List.length_cons, List.length_nil, Nat.reduceAdd, Nat.reduceLeDiff, Nat.reduceEqDiff, Nat.reduceBEq, decide_true, decide_false, Bool.not_true, Bool.not_false, Znr, Zns, Znt, Znu, Znv, Znw, Znx, Zny, Znz, Zoa, Zob, Zoc, Zod, Zoe, List.getElem?_cons_zero, List.getElem?_cons_succ, Zof, Zog, Zoh, Zoi, Zoj, Zok, Zol, Zom, Zon, Zoo, Zop, Zoq, Zor, Zos, Zot, Zou, Zov, Zow, Zox, Zoy, setX, Zoz, Zpa, Zpb, Int.ofNat_lt, Int.ofNat_le, Zpc, Zpd, Zpe, Zpf, Zpg, Zph, y6, q_lper hw (show 0 < 1 + i by omega) (show 1 + i < w.length by omega), ei, vec_atI hi, q_isint, p5, eg, eg']
    exact ⟨_, rfl, .val⟩
  rintro e ⟨x6, rfl, y6⟩
  simp -implicitDefEqProofs -dsimp only [↓Zaa, ↓Zab, ↓Zac, ↓Zad, ↓Zae, ↓Zaf, ↓Zag, ↓Zah, ↓Zai, ↓Zaj, ↓Zak, ↓Zal, ↓Zam, ↓Zan, ↓Zao, ↓Zap, ↓Zaq, ↓Zar, ↓Zas, ↓Zat, ↓Zau, ↓Zav, ↓Zaw, ↓Zax, ↓Zay, ↓Zaz, ↓Zba, ↓Zbb, ↓Zbc, ↓Zbd, ↓Zbe, ↓Zbf, ↓Zbg, ↓Zbh, ↓Zbi, ↓Zbj, ↓Zbk, ↓Zbl, ↓Zbm, ↓Zbn, ↓Zbo, ↓Zbp, ↓Zbq, ↓Zbr, ↓Zbs, ↓Zbt, ↓Zbu, ↓Zbv, ↓Zbw, ↓Zbx, ↓Zby, ↓Zbz, ↓Zca, ↓Zcb, ↓Zcc, ↓Zcd, ↓Zce, ↓Zcf, ↓Zcg, ↓Zch, ↓Zci, ↓Zcj, ↓Zck, ↓Zcl, ↓Zcm, ↓Zcn, ↓Zco, ↓Zcp, ↓Zcq, ↓Zcr, ↓Zcs, ↓Zct, ↓Zcu, ↓Zcv, ↓Zcw, ↓Zcx, ↓Zcy, ↓Zcz, ↓Zda, ↓Zdb, ↓Zdc, ↓Zdd, ↓Zde, ↓Zdf, ↓Zdg, ↓Zdh, ↓Zdi, ↓Zdj, ↓Zdk, ↓Zdl, ↓Zdm, ↓Zdn, ↓Zdo, ↓Zdp, ↓Zdq, ↓Zdr, ↓Zds, ↓Zdt, ↓Zdu, ↓Zdv, ↓Zdw, ↓Zdx, ↓Zdy, ↓Zdz, ↓Zea, ↓Zeb, ↓Zec, ↓Zed, ↓Zee, ↓Zef, ↓Zeg, ↓Zeh, ↓Zei, ↓Zej, ↓Zek, ↓Zel, ↓Zem, ↓Zen, ↓Zeo, ↓Zep, ↓Zeq, ↓Zer, ↓Zes, ↓Zet, ↓Zeu, ↓Zev, ↓Zew, ↓Zex, ↓Zey, ↓Zez, ↓Zfa, ↓Zfb, ↓Zfc, ↓Zfd, ↓Zfe, ↓Zff, ↓Zfg, ↓Zfh, ↓Zfi, ↓Zfj, ↓Zfk, ↓Zfl, ↓Zfm, ↓Zfn, ↓Zfo, ↓Zfp, ↓Zfq, ↓Zfr, ↓Zfs, ↓Zft, ↓Zfu, ↓Zfv, ↓Zfw, ↓Zfx, ↓Zfy, ↓Zfz, ↓Zga, ↓Zgb, ↓Zgc, ↓Zgd, ↓Zge, ↓Zgf, ↓Zgg, ↓Zgh, ↓Zgi, ↓Zgj, ↓Zgk, ↓Zgl, ↓Zgm, ↓Zgn, ↓Zgo, ↓Zgp, ↓Zgq, ↓Zgr, ↓Zgs, ↓Zgt, ↓Zgu, ↓Zgv, ↓Zgw, ↓Zgx, ↓Zgy, ↓Zgz, ↓Zha, ↓Zhb, ↓Zhc, ↓Zhd, ↓Zhe, ↓Zhf, ↓Zhg, ↓Zhh, ↓Zhi, ↓Zhj, ↓Zhk, ↓Zhl, ↓Zhm, ↓Zhn, ↓Zho, ↓Zhp, ↓Zhq, ↓Zhr, ↓Zhs, ↓Zht, ↓Zhu, ↓Zhv, ↓Zhw, ↓Zhx, ↓Zhy, ↓Zhz, ↓Zia, ↓Zib, ↓Zic, ↓Zid, ↓Zie, ↓Zif, ↓Zig, ↓Zih, ↓Zii, ↓Zij, ↓Zik, ↓Zil, ↓Zim, ↓Zin, ↓Zio, ↓Ziq, ↓Zir, ↓Zis, ↓Zit, ↓Ziu, ↓Ziv, ↓Ziw, ↓Zix, ↓Ziy, ↓Ziz, ↓Zja, ↓Zjb, ↓Zjc, ↓Zjd, ↓Zje, ↓Zjf, ↓Zjg, ↓Zjh, ↓Zji, ↓Zjj, ↓Zjk, ↓Zjl, ↓Zjm, ↓Zjn, ↓Zjo, ↓Zjp, ↓Zjq, ↓Zjr, ↓Zjs, ↓Zjt, ↓Zju, ↓Zjv, ↓Zjw, ↓Zjx, ↓Zjy, ↓Zjz, ↓Zka, ↓Zkb, ↓Zkc, ↓Zkd, ↓Zke, ↓Zkf, ↓Zkg, ↓Zkh, ↓Zki, ↓Zkj, ↓Zkk, ↓Zkl, ↓Zkm, ↓Zkn, ↓Zko, ↓Zkp, ↓Zkq, ↓Zkr, ↓Zks, ↓Zkt, ↓Zku, ↓Zkv, ↓Zkw, ↓Zkx, ↓Zky, ↓Zkz, reduceIte, if_true, if_false, Bool.false_eq_true, Bool.and_true, Bool.true_and, Bool.and_false, Bool.false_and, Bool.or_true, Bool.true_or, Bool.or_false, Bool.false_or, Int.cast_ofNat_Int, Zla, Zlb, beq_self_eq_true, Int.reduceBEq, Int.reduceLT, Int.reduceLE, Int.reduceEq, Int.reduceNeg, Nat.reduceLT, Zlc, Zld, Zle, Zlf, Zlg, Zlh, Zli, Zlj, Zlk, Zll, Zlm, Zln, Zlo, Zlp, Zlq, Zlr, Zls, Zlt, Zlu, Zlv, Zlw, Zlx, Zly, Zlz, Zma, Zmb, Zmc, Zmd, Zme, Zmf, Zmg, Zmh, Zmi, Zmj, Zmk, Zml, Zmm, Zmn, Zmo, Zmp, Zmq, Zmr, Zms, Zmt, Zmu, Zmv, Zmw, Zmx, Zmy, Zmz, Zna, Znb, Znc, Znd, Zne, Znf, Zng, Znh, Zni, Znj, Znk, Znl, Znm, Znn, Zno, List.lookup_nil, Znp, Znq, Option.map_some, Option.map_none, Option.bind_some, Option.bind_none, List.map_nil, List.map_cons, List.nil_append, List.cons_append, List.append_nil, List.length_cons, List.length_nil, Nat.reduceAdd, Nat.reduceLeDiff, Nat.reduceEqDiff, Nat.reduceBEq, decide_true, decide_false, Bool.not_true, Bool.not_false, Znr, Zns, Znt, Znu, Znv, Znw, Znx, Zny, Znz, Zoa, Zob, Zoc, Zod, Zoe, List.getElem?_cons_zero, List.getElem?_cons_succ, Zof, Zog, Zoh, Zoi, Zoj, Zok, Zol, Zom, Zon, Zoo, Zop, Zoq, Zor, Zos, Zot, Zou, Zov, Zow, Zox, Zoy, setX, Zoz, Zpa, Zpb, Int.ofNat_lt, Int.ofNat_le, Zpc, Zpd, Zpe, Zpf, Zpg, Zph, bLen_s hl2, s1, s0]
  rw [eR]
  refine lc_filter (l := List.range (w.length - 1)) (g := fun i => .int ((1 + i : Nat) : Int)) (fun i => decide (lp w (1 + i) = p)) (fun i => .int ((1 + i : Nat) : Int)) (by rcases y6 with z | ⟨v, z⟩ <;> rw [z] <;> rfl) (by simp; omega) (fun i hi => ?_) ?_
  · have hi := List.mem_range.mp hi
    obtain ⟨p1, p2, p3, p4, p5⟩ := hp (by omega)
    have ei : ((1 + i : Nat) : Int) - 1 = (i : Int) := by omega
    simp only [wipeE, List.set_cons_zero, List.set_cons_succ]
    by_cases h : lp w (1 + i) = p
    · have e2 : ((lp w (1 + i) : Int) == (p : Int)) = true := by rw [h]; simp
      simp -implicitDefEqProofs -dsimp only [↓Zaa, ↓Zab, ↓Zac, ↓Zad, ↓Zae, ↓Zaf, ↓Zag, ↓Zah, ↓Zai, ↓Zaj, ↓Zak, ↓Zal, ↓Zam, ↓Zan, ↓Zao, ↓Zap, ↓Zaq, ↓Zar, ↓Zas, ↓Zat, ↓Zau, ↓Zav, ↓Zaw, ↓Zax, ↓Zay, ↓Zaz, ↓Zba, ↓Zbb, ↓Zbc, ↓Zbd, ↓Zbe, ↓Zbf, ↓Zbg, ↓Zbh, ↓Zbi, ↓Zbj, ↓Zbk, ↓Zbl, ↓Zbm, ↓Zbn, ↓Zbo, ↓Zbp, ↓Zbq, ↓Zbr, ↓Zbs, ↓Zbt, ↓Zbu, ↓Zbv, ↓Zbw, ↓Zbx, ↓Zby, ↓Zbz, ↓Zca, ↓Zcb, ↓Zcc, ↓Zcd, ↓Zce, ↓Zcf, ↓Zcg, ↓Zch, ↓Zci, ↓Zcj, ↓Zck, ↓Zcl, ↓Zcm, ↓Zcn, ↓Zco, ↓Zcp, ↓Zcq, ↓Zcr, ↓Zcs, ↓Zct, ↓Zcu, ↓Zcv, ↓Zcw, ↓Zcx, ↓Zcy, ↓Zcz, ↓Zda, ↓Zdb, ↓Zdc, ↓Zdd, ↓Zde, ↓Zdf, ↓Zdg, ↓Zdh, ↓Zdi, ↓Zdj, ↓Zdk, ↓Zdl, ↓Zdm, ↓Zdn, ↓Zdo, ↓Zdp, ↓Zdq, ↓Zdr, ↓Zds, ↓Zdt, ↓Zdu, ↓Zdv, ↓Zdw, ↓Zdx, ↓Zdy, ↓Zdz, ↓Zea, ↓Zeb, ↓Zec, ↓Zed, ↓Zee, ↓Zef, ↓Zeg, ↓Zeh, ↓Zei, ↓Zej, ↓Zek, ↓Zel, ↓Zem, ↓Zen, ↓Zeo, ↓Zep, ↓Zeq, ↓Zer, ↓Zes, ↓Zet, ↓Zeu, ↓Zev, ↓Zew, ↓Zex, ↓Zey, ↓Zez, ↓Zfa, ↓Zfb, ↓Zfc, ↓Zfd, ↓Zfe, ↓Zff, ↓Zfg, ↓Zfh, ↓Zfi, ↓Zfj, ↓Zfk, ↓Zfl, ↓Zfm, ↓Zfn, ↓Zfo, ↓Zfp, ↓Zfq, ↓Zfr, ↓Zfs, ↓Zft, ↓Zfu, ↓Zfv, ↓Zfw, ↓Zfx, ↓Zfy, ↓Zfz, ↓Zga, ↓Zgb, ↓Zgc, ↓Zgd, ↓Zge, ↓Zgf, ↓Zgg, ↓Zgh, ↓Zgi, ↓Zgj, ↓Zgk, ↓Zgl, ↓Zgm, ↓Zgn, ↓Zgo, ↓Zgp, ↓Zgq, ↓Zgr, ↓Zgs, ↓Zgt, ↓Zgu, ↓Zgv, ↓Zgw, ↓Zgx, ↓Zgy, ↓Zgz, ↓Zha, ↓Zhb, ↓Zhc, ↓Zhd, ↓Zhe, ↓Zhf, ↓Zhg, ↓Zhh, ↓Zhi, ↓Zhj, ↓Zhk, ↓Zhl, ↓Zhm, ↓Zhn, ↓Zho, ↓Zhp, ↓Zhq, ↓Zhr, ↓Zhs, ↓Zht, ↓Zhu, ↓Zhv, ↓Zhw, ↓Zhx, ↓Zhy, ↓Zhz, ↓Zia, ↓Zib, ↓Zic, ↓Zid, ↓Zie, ↓Zif, ↓Zig, ↓Zih, ↓Zii, ↓Zij, ↓Zik, ↓Zil, ↓Zim, ↓Zin, ↓Zio, ↓Ziq, ↓Zir, ↓Zis, ↓Zit, ↓Ziu, ↓Ziv, ↓Ziw, ↓Zix, ↓Ziy, ↓Ziz, ↓Zja, ↓Zjb, ↓Zjc, ↓Zjd, ↓Zje, ↓Zjf, ↓Zjg, ↓Zjh, ↓Zji, ↓Zjj, ↓Zjk, ↓Zjl, ↓Zjm, ↓Zjn, ↓Zjo, ↓Zjp, ↓Zjq, ↓Zjr, ↓Zjs, ↓Zjt, ↓Zju, ↓Zjv, ↓Zjw, ↓Zjx, ↓Zjy, ↓Zjz, ↓Zka, ↓Zkb, ↓Zkc, ↓Zkd, ↓Zke, ↓Zkf, ↓Zkg, ↓Zkh, ↓Zki, ↓Zkj, ↓Zkk, ↓Zkl, ↓Zkm, ↓Zkn, ↓Zko, ↓Zkp, ↓Zkq, ↓Zkr, ↓Zks, ↓Zkt, ↓Zku, ↓Zkv, ↓Zkw, ↓Zkx, ↓Zky, ↓Zkz, reduceIte, if_true, if_false, Bool.false_eq_true, Bool.and_true, Bool.true_and, Bool.and_false, Bool.false_and, Bool.or_true, Bool.true_or, Bool.or_false, Bool.false_or, Int.cast_ofNat_Int, Zla, Zlb, beq_self_eq_true, Int.reduceBEq, Int.reduceLT, Int.reduceLE, Int.reduceEq, Int.reduceNeg, Nat.reduceLT, Zlc, Zld, Zle, Zlf, Zlg, Zlh, Zli, Zlj, Zlk, Zll, Zlm, Zln, Zlo, Zlp, Zlq, Zlr, Zls, Zlt, Zlu, Zlv, Zlw, Zlx, Zly, Zlz, Zma, Zmb, Zmc, Zmd, Zme, Zmf, Zmg, Zmh, Zmi, Zmj, Zmk, Zml, Zmm, Zmn, Zmo, Zmp, Zmq, Zmr, Zms, Zmt, Zmu, Zmv, Zmw, Zmx, Zmy, Zmz, Zna, Znb, Znc, Znd, Zne, Znf, Zng, Znh, Zni, Znj, Znk, Znl, Znm, Znn, Zno, List.lookup_nil, Znp, Znq, Option.map_some, Option.map_none, Option.bind_some, Option.bind_none, List.map_nil, List.map_cons, List.nil_append, List.cons_append, List.append_nil, List.length_cons, List.length_nil, Nat.reduceAdd, Nat.reduceLeDiff, Nat.reduceEqDiff, Nat.reduceBEq, decide_true, decide_false, Bool.not_true, Bool.not_false, Znr, Zns, Znt, Znu, Znv, Znw, Znx, Zny, Znz, Zoa, Zob, Zoc, Zod, Zoe, List.getElem?_cons_zero, List.getElem?_cons_succ, Zof, Zog, Zoh, Zoi, Zoj, Zok, Zol, Zom, Zon, Zoo, Zop, Zoq, Zor, Zos, Zot, Zou, Zov, Zow, Zox, Zoy, setX, Zoz, Zpa, Zpb, Int.ofNat_lt, Int.ofNat_le, Zpc, Zpd, Zpe, Zpf, Zpg, Zph, ei, vec_atI hi, p5, e2, decide_eq_true h]
      first | exact ⟨rfl, rfl, trivial⟩ | exact ⟨_, rfl, rfl, rfl, rfl⟩ | exact ⟨rfl, rfl, rfl⟩
    · have e2 : ((lp w (1 + i) : Int) == (p : Int)) = false := by simp; omega
      simp -implicitDefEqProofs -dsimp only [↓Zaa, ↓Zab, ↓Zac, ↓Zad, ↓Zae, ↓Zaf, ↓Zag, ↓Zah, ↓Zai, ↓Zaj, ↓Zak, ↓Zal, ↓Zam, ↓Zan, ↓Zao, ↓Zap, ↓Zaq, ↓Zar, ↓Zas, ↓Zat, ↓Zau, ↓Zav, ↓Zaw, ↓Zax, ↓Zay, ↓Zaz, ↓Zba, ↓Zbb, ↓Zbc, ↓Zbd, ↓Zbe, ↓Zbf, ↓Zbg, ↓Zbh, ↓Zbi, ↓Zbj, ↓Zbk, ↓Zbl, ↓Zbm, ↓Zbn, ↓Zbo, ↓Zbp, ↓Zbq, ↓Zbr, ↓Zbs, ↓Zbt, ↓Zbu, ↓Zbv, ↓Zbw, ↓Zbx, ↓Zby, ↓Zbz, ↓Zca, ↓Zcb, ↓Zcc, ↓Zcd, ↓Zce, ↓Zcf, ↓Zcg, ↓Zch, ↓Zci, ↓Zcj, ↓Zck, ↓Zcl, ↓Zcm, ↓Zcn, ↓Zco, ↓Zcp, ↓Zcq, ↓Zcr, ↓Zcs, ↓Zct, ↓Zcu, ↓Zcv, ↓Zcw, ↓Zcx, ↓Zcy, ↓Zcz, ↓Zda, ↓Zdb, ↓Zdc, ↓Zdd, ↓Zde, ↓Zdf, ↓Zdg, ↓Zdh, ↓Zdi, ↓Zdj, ↓Zdk, ↓Zdl, ↓Zdm, ↓Zdn, ↓Zdo, ↓Zdp, ↓Zdq, ↓Zdr, ↓Zds, ↓Zdt, ↓Zdu, ↓Zdv, ↓Zdw, ↓Zdx, ↓Zdy, ↓Zdz, ↓Zea, ↓Zeb, ↓Zec, ↓Zed, ↓Zee, ↓Zef, ↓Zeg, ↓Zeh, ↓Zei, ↓Zej, ↓Zek, ↓Zel, ↓Zem, ↓Zen, ↓Zeo, ↓Zep, ↓Zeq, ↓Zer, ↓Zes, ↓Zet, ↓Zeu, ↓Zev, ↓Zew, ↓Zex, ↓Zey, ↓Zez, ↓Zfa, ↓Zfb, ↓Zfc, ↓Zfd, ↓Zfe, ↓Zff, ↓Zfg, ↓Zfh, ↓Zfi, ↓Zfj, ↓Zfk, ↓Zfl, ↓Zfm, ↓Zfn, ↓Zfo, ↓Zfp, ↓Zfq, ↓Zfr, ↓Zfs, ↓Zft, ↓Zfu, ↓Zfv, ↓Zfw, ↓Zfx, ↓Zfy, ↓Zfz, ↓Zga, ↓Zgb, ↓Zgc, ↓Zgd, ↓Zge, ↓Zgf, ↓Zgg, ↓Zgh, ↓Zgi, ↓Zgj, ↓Zgk, ↓Zgl, ↓Zgm, ↓Zgn, ↓Zgo, ↓Zgp, ↓Zgq, ↓Zgr, ↓Zgs, ↓Zgt, ↓Zgu, ↓Zgv, ↓Zgw, ↓Zgx, ↓Zgy, ↓Zgz, ↓Zha, ↓Zhb, ↓Zhc, ↓Zhd, ↓Zhe, ↓Zhf, ↓Zhg, ↓Zhh, ↓Zhi, ↓Zhj, ↓Zhk, ↓Zhl, ↓Zhm, ↓Zhn, ↓Zho, ↓Zhp, ↓Zhq, ↓Zhr, ↓Zhs, ↓Zht, ↓Zhu, ↓Zhv, ↓Zhw, ↓Zhx, ↓Zhy, ↓Zhz, ↓Zia, ↓Zib, ↓Zic, ↓Zid, ↓Zie, ↓Zif, ↓Zig, ↓Zih, ↓Zii, ↓Zij, ↓Zik, ↓Zil, ↓Zim, ↓Zin, ↓Zio, ↓Ziq, ↓Zir, ↓Zis, ↓Zit, ↓Ziu, ↓Ziv, ↓Ziw, ↓Zix, ↓Ziy, ↓Ziz, ↓Zja, ↓Zjb, ↓Zjc, ↓Zjd, ↓Zje, ↓Zjf, ↓Zjg, ↓Zjh, ↓Zji, ↓Zjj, ↓Zjk, ↓Zjl, ↓Zjm, ↓Zjn, ↓Zjo, ↓Zjp, ↓Zjq, ↓Zjr, ↓Zjs, ↓Zjt, ↓Zju, ↓Zjv, ↓Zjw, ↓Zjx, ↓Zjy, ↓Zjz, ↓Zka, ↓Zkb, ↓Zkc, ↓Zkd, ↓Zke, ↓Zkf, ↓Zkg, ↓Zkh, ↓Zki, ↓Zkj, ↓Zkk, ↓Zkl, ↓Zkm, ↓Zkn, ↓Zko, ↓Zkp, ↓Zkq, ↓Zkr, ↓Zks, ↓Zkt, ↓Zku, ↓Zkv, ↓Zkw, ↓Zkx, ↓Zky, ↓Zkz, reduceIte, if_true, if_false, Bool.false_eq_true, Bool.and_true, Bool.true_and, Bool.and_false, Bool.false_and, Bool.or_true, Bool.true_or, Bool.or_false, Bool.false_or, Int.cast_ofNat_Int, Zla, Zlb, beq_self_eq_true, Int.reduceBEq, Int.reduceLT, Int.reduceLE, Int.reduceEq, Int.reduceNeg, Nat.reduceLT, Zlc, Zld, Zle, Zlf, Zlg, Zlh, Zli, Zlj, Zlk, Zll, Zlm, Zln, Zlo, Zlp, Zlq, Zlr, Zls, Zlt, Zlu, Zlv, Zlw, Zlx, Zly, Zlz, Zma, Zmb, Zmc, Zmd, Zme, Zmf, Zmg, Zmh, Zmi, Zmj, Zmk, Zml, Zmm, Zmn, Zmo, Zmp, Zmq, Zmr, Zms, Zmt, Zmu, Zmv, Zmw, Zmx, Zmy, Zmz, Zna, Znb, Znc, Znd, Zne, Znf, Zng, Znh, Zni, Znj, Znk, Znl, Znm, Znn, Zno, List.lookup_nil, Znp, Znq, Option.map_some, Option.map_none, Option.bind_some, Option.bind_none, List.map_nil, List.map_cons, List.nil_append, List.cons_append, List.append_nil, List.length_cons, List.length_nil, Nat.reduceAdd, Nat.reduceLeDiff, Nat.reduceEqDiff, Nat.reduceBEq, decide_true, decide_false, Bool.not_true, Bool.not_false, Znr, Zns, Znt, Znu, Znv, Znw, Znx, Zny, Znz, Zoa, Zob, Zoc, Zod, Zoe, List.getElem?_cons_zero, List.getElem?_cons_succ, Zof, Zog, Zoh, Zoi, Zoj, Zok, Zol, Zom, Zon, Zoo, Zop, Zoq, Zor, Zos, Zot, Zou, Zov, Zow, Zox, Zoy, setX, Zoz, Zpa, Zpb, Int.ofNat_lt, Int.ofNat_le, Zpc, Zpd, Zpe, Zpf, Zpg, Zph, ei, vec_atI hi, p5, e2, decide_eq_false h]
      first | exact ⟨rfl, rfl, trivial⟩ | exact ⟨_, rfl, rfl, rfl, rfl⟩ | exact ⟨rfl, rfl, rfl⟩
  have clen : ((List.range (w.length - 1)).filter fun i => decide (lp w (1 + i) = p)).length ≤ w.length := Nat.le_trans (List.length_filter_le ..) (by simp)
  have i3 := q_ints (l := (List.range (w.length - 1)).filter fun i => decide (lp w (1 + i) = p)) (f := fun i => ((1 + i : Nat) : Int)) (by omega)
  by_cases hn : w.length < 2
  · have qc : φ_critical_cuts [.val (.str w)] = .ok (.d (.tup (((List.range (w.length - 1)).filter fun i => decide (lp w (1 + i) = p)).map fun i => .int ((1 + i : Nat) : Int)))) [] := by
      rw [q_cuts0 hw hn, show w.length - 1 = 0 by omega]
      rfl
    have e1 : decide ((w.length : Int) < 2) = true := decide_eq_true (by omega)
    simp -implicitDefEqProofs -dsimp only [↓Zaa, ↓Zab, ↓Zac, ↓Zad, ↓Zae, ↓Zaf, ↓Zag, ↓Zah, ↓Zai, ↓Zaj, ↓Zak, ↓Zal, ↓Zam, ↓Zan, ↓Zao, ↓Zap, ↓Zaq, ↓Zar, ↓Zas, ↓Zat, ↓Zau, ↓Zav, ↓Zaw, ↓Zax, ↓Zay, ↓Zaz, ↓Zba, ↓Zbb, ↓Zbc, ↓Zbd, ↓Zbe, ↓Zbf, ↓Zbg, ↓Zbh, ↓Zbi, ↓Zbj, ↓Zbk, ↓Zbl, ↓Zbm, ↓Zbn, ↓Zbo, ↓Zbp, ↓Zbq, ↓Zbr, ↓Zbs, ↓Zbt, ↓Zbu, ↓Zbv, ↓Zbw, ↓Zbx, ↓Zby, ↓Zbz, ↓Zca, ↓Zcb, ↓Zcc, ↓Zcd, ↓Zce, ↓Zcf, ↓Zcg, ↓Zch, ↓Zci, ↓Zcj, ↓Zck, ↓Zcl, ↓Zcm, ↓Zcn, ↓Zco, ↓Zcp, ↓Zcq, ↓Zcr, ↓Zcs, ↓Zct, ↓Zcu, ↓Zcv, ↓Zcw, ↓Zcx, ↓Zcy, ↓Zcz, ↓Zda, ↓Zdb, ↓Zdc, ↓Zdd, ↓Zde, ↓Zdf, ↓Zdg, ↓Zdh, ↓Zdi, ↓Zdj, ↓Zdk, ↓Zdl, ↓Zdm, ↓Zdn, ↓Zdo, ↓Zdp, ↓Zdq, ↓Zdr, ↓Zds, ↓Zdt, ↓Zdu, ↓Zdv, ↓Zdw, ↓Zdx, ↓Zdy, ↓Zdz, ↓Zea, ↓Zeb, ↓Zec, ↓Zed, ↓Zee, ↓Zef, ↓Zeg, ↓Zeh, ↓Zei, ↓Zej, ↓Zek, ↓Zel, ↓Zem, ↓Zen, ↓Zeo, ↓Zep, ↓Zeq, ↓Zer, ↓Zes, ↓Zet, ↓Zeu, ↓Zev, ↓Zew, ↓Zex, ↓Zey, ↓Zez, ↓Zfa, ↓Zfb, ↓Zfc, ↓Zfd, ↓Zfe, ↓Zff, ↓Zfg, ↓Zfh, ↓Zfi, ↓Zfj, ↓Zfk, ↓Zfl, ↓Zfm, ↓Zfn, ↓Zfo, ↓Zfp, ↓Zfq, ↓Zfr, ↓Zfs, ↓Zft, ↓Zfu, ↓Zfv, ↓Zfw, ↓Zfx, ↓Zfy, ↓Zfz, ↓Zga, ↓Zgb, ↓Zgc, ↓Zgd, ↓Zge, ↓Zgf, ↓Zgg, ↓Zgh, ↓Zgi, ↓Zgj, ↓Zgk, ↓Zgl, ↓Zgm, ↓Zgn, ↓Zgo, ↓Zgp, ↓Zgq, ↓Zgr, ↓Zgs, ↓Zgt, ↓Zgu, ↓Zgv, ↓Zgw, ↓Zgx, ↓Zgy, ↓Zgz, ↓Zha, ↓Zhb, ↓Zhc, ↓Zhd, ↓Zhe, ↓Zhf, ↓Zhg, ↓Zhh, ↓Zhi, ↓Zhj, ↓Zhk, ↓Zhl, ↓Zhm, ↓Zhn, ↓Zho, ↓Zhp, ↓Zhq, ↓Zhr, ↓Zhs, ↓Zht, ↓Zhu, ↓Zhv, ↓Zhw, ↓Zhx, ↓Zhy, ↓Zhz, ↓Zia, ↓Zib, ↓Zic, ↓Zid, ↓Zie, ↓Zif, ↓Zig, ↓Zih, ↓Zii, ↓Zij, ↓Zik, ↓Zil, ↓Zim, ↓Zin, ↓Zio, ↓Ziq, ↓Zir, ↓Zis, ↓Zit, ↓Ziu, ↓Ziv, ↓Ziw, ↓Zix, ↓Ziy, ↓Ziz, ↓Zja, ↓Zjb, ↓Zjc, ↓Zjd, ↓Zje, ↓Zjf, ↓Zjg, ↓Zjh, ↓Zji, ↓Zjj, ↓Zjk, ↓Zjl, ↓Zjm, ↓Zjn, ↓Zjo, ↓Zjp, ↓Zjq, ↓Zjr, ↓Zjs, ↓Zjt, ↓Zju, ↓Zjv, ↓Zjw, ↓Zjx, ↓Zjy, ↓Zjz, ↓Zka, ↓Zkb, ↓Zkc, ↓Zkd, ↓Zke, ↓Zkf, ↓Zkg, ↓Zkh, ↓Zki, ↓Zkj, ↓Zkk, ↓Zkl, ↓Zkm, ↓Zkn, ↓Zko, ↓Zkp, ↓Zkq, ↓Zkr, ↓Zks, ↓Zkt, ↓Zku, ↓Zkv, ↓Zkw, ↓Zkx, ↓Zky, ↓Zkz, reduceIte, if_true, if_false, Bool.false_eq_true, Bool.and_true, Bool.true_and, Bool.and_false, Bool.false_and, Bool.or_true, Bool.true_or, Bool.or_false, Bool.false_or, Int.cast_ofNat_Int, Zla, Zlb, beq_self_eq_true, Int.reduceBEq, Int.reduceLT, Int.reduceLE, Int.reduceEq, Int.reduceNeg, Nat.reduceLT, Zlc, Zld, Zle, Zlf, Zlg, Zlh, Zli, Zlj, Zlk, Zll, Zlm, Zln, Zlo, Zlp, Zlq, Zlr, Zls, Zlt, Zlu, Zlv, Zlw, Zlx, Zly, Zlz, Zma, Zmb, Zmc, Zmd, Zme, Zmf, Zmg, Zmh, Zmi, Zmj, Zmk, Zml, Zmm, Zmn, Zmo, Zmp, Zmq, Zmr, Zms, Zmt, Zmu, Zmv, Zmw, Zmx, Zmy, Zmz, Zna, Znb, Znc, Znd, Zne, Znf, Zng, Znh, Zni, Znj, Znk, Znl, Znm, Znn, Zno, List.lookup_nil, Znp, Znq, Option.map_some, Option.map_none, Option.bind_some, Option.bind_none, List.map_nil, List.map_cons, List.nil_append, List.cons_append, List.append_nil, List.length_cons, List.length_nil, Nat.reduceAdd, Nat.reduceLeDiff, Nat.reduceEqDiff, Nat.reduceBEq, decide_true, decide_false, Bool.not_true, Bool.not_false, Znr, Zns, Znt, Znu, Znv, Znw, Znx, Zny, Znz, Zoa, Zob, Zoc, Zod, Zoe, List.getElem?_cons_zero, List.getElem?_cons_succ, Zof, Zog, Zoh, Zoi, Zoj, Zok, Zol, Zom, Zon, Zoo, Zop, Zoq, Zor, Zos, Zot, Zou, Zov, Zow, Zox, Zoy, setX, Zoz, Zpa, Zpb, Int.ofNat_lt, Int.ofNat_le, Zpc, Zpd, Zpe, Zpf, Zpg, Zph, qc, i3, bLen_s hl2, e1]
  · obtain ⟨p1, p2, p3, p4, p5⟩ := hp (by omega)
    have qc := q_cuts hw (by omega) p5
    unfold critD critL at qc
    have e1 : decide ((w.length : Int) < 2) = false := decide_eq_false (by omega)
    obtain ⟨a, l, hal, ha⟩ := crit_head hw (by omega) p1 p2 p3 p4
    have e3 : decide (0 < ((l.length + 1 : Nat) : Int)) = true := decide_eq_true (by omega)
    have e4 : max 1 ((p : Int) - 1) = ((max 1 (p - 1) : Nat) : Int) := by omega
    have e5 : decide (((1 + a : Nat) : Int) ≤ ((max 1 (p - 1) : Nat) : Int)) = true := decide_eq_true (by omega)
    have e6 : decide (1 + a ≤ max 1 (p - 1)) = true := decide_eq_true ha
    simp -implicitDefEqProofs -dsimp only [↓Zaa, ↓Zab, ↓Zac, ↓Zad, ↓Zae, ↓Zaf, ↓Zag, ↓Zah, ↓Zai, ↓Zaj, ↓Zak, ↓Zal, ↓Zam, ↓Zan, ↓Zao, ↓Zap, ↓Zaq, ↓Zar, ↓Zas, ↓Zat, ↓Zau, ↓Zav, ↓Zaw, ↓Zax, ↓Zay, ↓Zaz, ↓Zba, ↓Zbb, ↓Zbc, ↓Zbd, ↓Zbe, ↓Zbf, ↓Zbg, ↓Zbh, ↓Zbi, ↓Zbj, ↓Zbk, ↓Zbl, ↓Zbm, ↓Zbn, ↓Zbo, ↓Zbp, ↓Zbq, ↓Zbr, ↓Zbs, ↓Zbt, ↓Zbu, ↓Zbv, ↓Zbw, ↓Zbx, ↓Zby, ↓Zbz, ↓Zca, ↓Zcb, ↓Zcc, ↓Zcd, ↓Zce, ↓Zcf, ↓Zcg, ↓Zch, ↓Zci, ↓Zcj, ↓Zck, ↓Zcl, ↓Zcm, ↓Zcn, ↓Zco, ↓Zcp, ↓Zcq, ↓Zcr, ↓Zcs, ↓Zct, ↓Zcu, ↓Zcv, ↓Zcw, ↓Zcx, ↓Zcy, ↓Zcz, ↓Zda, ↓Zdb, ↓Zdc, ↓Zdd, ↓Zde, ↓Zdf, ↓Zdg, ↓Zdh, ↓Zdi, ↓Zdj, ↓Zdk, ↓Zdl, ↓Zdm, ↓Zdn, ↓Zdo, ↓Zdp, ↓Zdq, ↓Zdr, ↓Zds, ↓Zdt, ↓Zdu, ↓Zdv, ↓Zdw, ↓Zdx, ↓Zdy, ↓Zdz, ↓Zea, ↓Zeb, ↓Zec, ↓Zed, ↓Zee, ↓Zef, ↓Zeg, ↓Zeh, ↓Zei, ↓Zej, ↓Zek, ↓Zel, ↓Zem, ↓Zen, ↓Zeo, ↓Zep, ↓Zeq, ↓Zer, ↓Zes, ↓Zet, ↓Zeu, ↓Zev, ↓Zew, ↓Zex, ↓Zey, ↓Zez, ↓Zfa, ↓Zfb, ↓Zfc, ↓Zfd, ↓Zfe, ↓Zff, ↓Zfg, ↓Zfh, ↓Zfi, ↓Zfj, ↓Zfk, ↓Zfl, ↓Zfm, ↓Zfn, ↓Zfo, ↓Zfp, ↓Zfq, ↓Zfr, ↓Zfs, ↓Zft, ↓Zfu, ↓Zfv, ↓Zfw, ↓Zfx, ↓Zfy, ↓Zfz, ↓Zga, ↓Zgb, ↓Zgc, ↓Zgd, ↓Zge, ↓Zgf, ↓Zgg, ↓Zgh, ↓Zgi, ↓Zgj, ↓Zgk, ↓Zgl, ↓Zgm, ↓Zgn, ↓Zgo, ↓Zgp, ↓Zgq, ↓Zgr, ↓Zgs, ↓Zgt, ↓Zgu, ↓Zgv, ↓Zgw, ↓Zgx, ↓Zgy, ↓Zgz, ↓Zha, ↓Zhb, ↓Zhc, ↓Zhd, ↓Zhe, ↓Zhf, ↓Zhg, ↓Zhh, ↓Zhi, ↓Zhj, ↓Zhk, ↓Zhl, ↓Zhm, ↓Zhn, ↓Zho, ↓Zhp, ↓Zhq, ↓Zhr, ↓Zhs, ↓Zht, ↓Zhu, ↓Zhv, ↓Zhw, ↓Zhx, ↓Zhy, ↓Zhz, ↓Zia, ↓Zib, ↓Zic, ↓Zid, ↓Zie, ↓Zif, ↓Zig, ↓Zih, ↓Zii, ↓Zij, ↓Zik, ↓Zil, ↓Zim, ↓Zin, ↓Zio, ↓Ziq, ↓Zir, ↓Zis, ↓Zit, ↓Ziu, ↓Ziv, ↓Ziw, ↓Zix, ↓Ziy, ↓Ziz, ↓Zja, ↓Zjb, ↓Zjc, ↓Zjd, ↓Zje, ↓Zjf, ↓Zjg, ↓Zjh, ↓Zji, ↓Zjj, ↓Zjk, ↓Zjl, ↓Zjm, ↓Zjn, ↓Zjo, ↓Zjp, ↓Zjq, ↓Zjr, ↓Zjs, ↓Zjt, ↓Zju, ↓Zjv, ↓Zjw, ↓Zjx, ↓Zjy, ↓Zjz, ↓Zka, ↓Zkb, ↓Zkc, ↓Zkd, ↓Zke, ↓Zkf, ↓Zkg, ↓Zkh, ↓Zki, ↓Zkj, ↓Zkk, ↓Zkl, ↓Zkm, ↓Zkn, ↓Zko, ↓Zkp, ↓Zkq, ↓Zkr, ↓Zks, ↓Zkt, ↓Zku, ↓Zkv, ↓Zkw, ↓Zkx, ↓Zky, ↓Zkz, reduceIte, if_true, if_false, Bool.false_eq_true, Bool.and_true, Bool.true_and, Bool.and_false, Bool.false_and, Bool.or_true, Bool.true_or, Bool.or_false, Bool.false_or, Int.cast_ofNat_Int, Zla, Zlb, beq_self_eq_true, Int.reduceBEq, Int.reduceLT, Int.reduceLE, Int.reduceEq, Int.reduceNeg, Nat.reduceLT, Zlc, Zld, Zle, Zlf, Zlg, Zlh, Zli, Zlj, Zlk, Zll, Zlm, Zln, Zlo, Zlp, Zlq, Zlr, Zls, Zlt, Zlu, Zlv, Zlw, Zlx, Zly, Zlz, Zma, Zmb, Zmc, Zmd, Zme, Zmf, Zmg, Zmh, Zmi, Zmj, Zmk, Zml, Zmm, Zmn, Zmo, Zmp, Zmq, Zmr, Zms, Zmt, Zmu, Zmv, Zmw, Zmx, Zmy, Zmz, Zna, Znb, Znc, Znd, Zne, Znf, Zng, Znh, Zni, Znj, Znk, Znl, Znm, Znn, Zno, List.lookup_nil, Znp, Znq, Option.map_some, Option.map_none, Option.bind_some, Option.bind_none, List.map_nil, List.map_cons, List.nil_append, List.cons_append, List.append_nil, List.length_cons, List.length_nil, Nat.reduceAdd, Nat.reduceLeDiff, Nat.reduceEqDiff, Nat.reduceBEq, decide_true, decide_false, Bool.not_true, Bool.not_false, Znr, Zns, Znt, Znu, Znv, Znw, Znx, Zny, Znz, Zoa, Zob, Zoc, Zod, Zoe, List.getElem?_cons_zero, List.getElem?_cons_succ, Zof, Zog, Zoh, Zoi, Zoj, Zok, Zol, Zom, Zon, Zoo, Zop, Zoq, Zor, Zos, Zot, Zou, Zov, Zow, Zox, Zoy, setX, Zoz, Zpa, Zpb, Int.ofNat_lt, Int.ofNat_le, Zpc, Zpd, Zpe, Zpf, Zpg, Zph, qc, i3, bLen_s hl2, e1]
    rw [hal]
    simp -implicitDefEqProofs -dsimp only [↓Zaa, ↓Zab, ↓Zac, ↓Zad, ↓Zae, ↓Zaf, ↓Zag, ↓Zah, ↓Zai, ↓Zaj, ↓Zak, ↓Zal, ↓Zam, ↓Zan, ↓Zao, ↓Zap, ↓Zaq, ↓Zar, ↓Zas, ↓Zat, ↓Zau, ↓Zav, ↓Zaw, ↓Zax, ↓Zay, ↓Zaz, ↓Zba, ↓Zbb, ↓Zbc, ↓Zbd, ↓Zbe, ↓Zbf, ↓Zbg, ↓Zbh, ↓Zbi, ↓Zbj, ↓Zbk, ↓Zbl, ↓Zbm, ↓Zbn, ↓Zbo, ↓Zbp, ↓Zbq, ↓Zbr, ↓Zbs, ↓Zbt, ↓Zbu, ↓Zbv, ↓Zbw, ↓Zbx, ↓Zby, ↓Zbz, ↓Zca, ↓Zcb, ↓Zcc, ↓Zcd, ↓Zce, ↓Zcf, ↓Zcg, ↓Zch, ↓Zci, ↓Zcj, ↓Zck, ↓Zcl, ↓Zcm, ↓Zcn, ↓Zco, ↓Zcp, ↓Zcq, ↓Zcr, ↓Zcs, ↓Zct, ↓Zcu, ↓Zcv, ↓Zcw, ↓Zcx, ↓Zcy, ↓Zcz, ↓Zda, ↓Zdb, ↓Zdc, ↓Zdd, ↓Zde, ↓Zdf, ↓Zdg, ↓Zdh, ↓Zdi, ↓Zdj, ↓Zdk, ↓Zdl, ↓Zdm, ↓Zdn, ↓Zdo, ↓Zdp, ↓Zdq, ↓Zdr, ↓Zds, ↓Zdt, ↓Zdu, ↓Zdv, ↓Zdw, ↓Zdx, ↓Zdy, ↓Zdz, ↓Zea, ↓Zeb, ↓Zec, ↓Zed, ↓Zee, ↓Zef, ↓Zeg, ↓Zeh, ↓Zei, ↓Zej, ↓Zek, ↓Zel, ↓Zem, ↓Zen, ↓Zeo, ↓Zep, ↓Zeq, ↓Zer, ↓Zes, ↓Zet, ↓Zeu, ↓Zev, ↓Zew, ↓Zex, ↓Zey, ↓Zez, ↓Zfa, ↓Zfb, ↓Zfc, ↓Zfd, ↓Zfe, ↓Zff, ↓Zfg, ↓Zfh, ↓Zfi, ↓Zfj, ↓Zfk, ↓Zfl, ↓Zfm, ↓Zfn, ↓Zfo, ↓Zfp, ↓Zfq, ↓Zfr, ↓Zfs, ↓Zft, ↓Zfu, ↓Zfv, ↓Zfw, ↓Zfx, ↓Zfy, ↓Zfz, ↓Zga, ↓Zgb, ↓Zgc, ↓Zgd, ↓Zge, ↓Zgf, ↓Zgg, ↓Zgh, ↓Zgi, ↓Zgj, ↓Zgk, ↓Zgl, ↓Zgm, ↓Zgn, ↓Zgo, ↓Zgp, ↓Zgq, ↓Zgr, ↓Zgs, ↓Zgt, ↓Zgu, ↓Zgv, ↓Zgw, ↓Zgx, ↓Zgy, ↓Zgz, ↓Zha, ↓Zhb, ↓Zhc, ↓Zhd, ↓Zhe, ↓Zhf, ↓Zhg, ↓Zhh, ↓Zhi, ↓Zhj, ↓Zhk, ↓Zhl, ↓Zhm, ↓Zhn, ↓Zho, ↓Zhp, ↓Zhq, ↓Zhr, ↓Zhs, ↓Zht, ↓Zhu, ↓Zhv, ↓Zhw, ↓Zhx, ↓Zhy, ↓Zhz, ↓Zia, ↓Zib, ↓Zic, ↓Zid, ↓Zie, ↓Zif, ↓Zig, ↓Zih, ↓Zii, ↓Zij, ↓Zik, ↓Zil, ↓Zim, ↓Zin, ↓Zio, ↓Ziq, ↓Zir, ↓Zis, ↓Zit, ↓Ziu, ↓Ziv, ↓Ziw, ↓Zix, ↓Ziy, ↓Ziz, ↓Zja, ↓Zjb, ↓Zjc, ↓Zjd, ↓Zje, ↓Zjf, ↓Zjg, ↓Zjh, ↓Zji, ↓Zjj, ↓Zjk, ↓Zjl, ↓Zjm, ↓Zjn, ↓Zjo, ↓Zjp, ↓Zjq, ↓Zjr, ↓Zjs, ↓Zjt, ↓Zju, ↓Zjv, ↓Zjw, ↓Zjx, ↓Zjy, ↓Zjz, ↓Zka, ↓Zkb, ↓Zkc, ↓Zkd, ↓Zke, ↓Zkf, ↓Zkg, ↓Zkh, ↓Zki, ↓Zkj, ↓Zkk, ↓Zkl, ↓Zkm, ↓Zkn, ↓Zko, ↓Zkp, ↓Zkq, ↓Zkr, ↓Zks, ↓Zkt, ↓Zku, ↓Zkv, ↓Zkw, ↓Zkx, ↓Zky, ↓Zkz, reduceIte, if_true, if_false, Bool.false_eq_true, Bool.and_true, Bool.true_and, Bool.and_false, Bool.false_and, Bool.or_true, Bool.true_or, Bool.or_false, Bool.false_or, Int.cast_ofNat_Int, Zla, Zlb, beq_self_eq_true, Int.reduceBEq, Int.reduceLT, Int.reduceLE, Int.reduceEq, Int.reduceNeg, Nat.reduceLT, Zlc, Zld, Zle, Zlf, Zlg, Zlh, Zli, Zlj, Zlk, Zll, Zlm, Zln, Zlo, Zlp, Zlq, Zlr, Zls, Zlt, Zlu, Zlv, Zlw, Zlx, Zly, Zlz, Zma, Zmb, Zmc, Zmd, Zme, Zmf, Zmg, Zmh, Zmi, Zmj, Zmk, Zml, Zmm, Zmn, Zmo, Zmp, Zmq, Zmr, Zms, Zmt, Zmu, Zmv, Zmw, Zmx, Zmy, Zmz, Zna, Znb, Znc, Znd, Zne, Znf, Zng, Znh, Zni, Znj, Znk, Znl, Znm, Znn, Zno, List.lookup_nil, Znp, Znq, Option.map_some, Option.map_none, Option.bind_some, Option.bind_none, List.map_nil, List.map_cons, List.nil_append, List.cons_append, List.append_nil, List.length_cons, List.length_nil, Nat.reduceAdd, Nat.reduceLeDiff, Nat.reduceEqDiff, Nat.reduceBEq, decide_true, decide_false, Bool.not_true, Bool.not_false, Znr, Zns, Znt, Znu, Znv, Znw, Znx, Zny, Znz, Zoa, Zob, Zoc, Zod, Zoe, List.getElem?_cons_zero, List.getElem?_cons_succ, Zof, Zog, Zoh, Zoi, Zoj, Zok, Zol, Zom, Zon, Zoo, Zop, Zoq, Zor, Zos, Zot, Zou, Zov, Zow, Zox, Zoy, setX, Zoz, Zpa, Zpb, Int.ofNat_lt, Int.ofNat_le, Zpc, Zpd, Zpe, Zpf, Zpg, Zph, List.length_map, e3, p5, e4, e5, e6]
end L2.S.W

set_option Elab.async false
set_option linter.all false
set_option maxRecDepth 100000
set_option maxHeartbeats 8000000
namespace L2.S.W
open PySem PySem.Spec PyProof.Rows L2 L2.S
structure St2 (s0 s1 : Int) : Prop where
  n0 : 0 ≤ s0
  n1 : 0 ≤ s1
  lt : s1 < 2147483647
abbrev stD (s0 s1 : Int) : OB := .l [.int s0, .int s1]
theorem l_take {s0 s1 m : Int} (hs : St2 s0 s1) (hm : 0 < m) : ∃ x t0 t1 : Int, φ_law_take [.own true (stD s0 s1), .val (.int m)] = .ok (.d (.int x)) [(0, stD t0 t1)] ∧ 0 ≤ x ∧ x < m ∧ St2 t0 t1 := by
  have hm0 : m ≠ 0 := by omega
  by_cases h : 0 < s0
  · refine ⟨s0 % m, s0.fdiv m, s1, ?_, Int.emod_nonneg _ hm0, Int.emod_lt_of_pos _ hm, ⟨Int.fdiv_nonneg (by omega) (by omega), hs.n1, hs.lt⟩⟩
    apply run_law_take
    unfold g_law_take
    have e1 : decide (0 < s0) = true := decide_eq_true h
    have ix : ixN 2 (0 : Int) = some 0 := rfl
    simp -implicitDefEqProofs -dsimp only [↓Zaa, ↓Zab, ↓Zac, ↓Zad, ↓Zae, ↓Zaf, ↓Zag, ↓Zah, ↓Zai, ↓Zaj, ↓Zak, ↓Zal, ↓Zam, ↓Zan, ↓Zao, ↓Zap, ↓Zaq, ↓Zar, ↓Zas, ↓Zat, ↓Zau, ↓Zav, ↓Zaw, ↓Zax, ↓Zay, ↓Zaz, ↓Zba, ↓Zbb, ↓Zbc, ↓Zbd, ↓Zbe, ↓Zbf, ↓Zbg, ↓Zbh, ↓Zbi, ↓Zbj, ↓Zbk, ↓Zbl, ↓Zbm, ↓Zbn, ↓Zbo, ↓Zbp, ↓Zbq, ↓Zbr, ↓Zbs, ↓Zbt, ↓Zbu, ↓Zbv, ↓Zbw, ↓Zbx, ↓Zby, ↓Zbz, ↓Zca, ↓Zcb, ↓Zcc, ↓Zcd, ↓Zce, ↓Zcf, ↓Zcg, ↓Zch, ↓Zci, ↓Zcj, ↓Zck, ↓Zcl, ↓Zcm, ↓Zcn, ↓Zco, ↓Zcp, ↓Zcq, ↓Zcr, ↓Zcs, ↓Zct, ↓Zcu, ↓Zcv, ↓Zcw, ↓Zcx, ↓Zcy, ↓Zcz, ↓Zda, ↓Zdb, ↓Zdc, ↓Zdd, ↓Zde, ↓Zdf, ↓Zdg, ↓Zdh, ↓Zdi, ↓Zdj, ↓Zdk, ↓Zdl, ↓Zdm, ↓Zdn, ↓Zdo, ↓Zdp, ↓Zdq, ↓Zdr, ↓Zds, ↓Zdt, ↓Zdu, ↓Zdv, ↓Zdw, ↓Zdx, ↓Zdy, ↓Zdz, ↓Zea, ↓Zeb, ↓Zec, ↓Zed, ↓Zee, ↓Zef, ↓Zeg, ↓Zeh, ↓Zei, ↓Zej, ↓Zek, ↓Zel, ↓Zem, ↓Zen, ↓Zeo, ↓Zep, ↓Zeq, ↓Zer, ↓Zes, ↓Zet, ↓Zeu, ↓Zev, ↓Zew, ↓Zex, ↓Zey, ↓Zez, ↓Zfa, ↓Zfb, ↓Zfc, ↓Zfd, ↓Zfe, ↓Zff, ↓Zfg, ↓Zfh, ↓Zfi, ↓Zfj, ↓Zfk, ↓Zfl, ↓Zfm, ↓Zfn, ↓Zfo, ↓Zfp, ↓Zfq, ↓Zfr, ↓Zfs, ↓Zft, ↓Zfu, ↓Zfv, ↓Zfw, ↓Zfx, ↓Zfy, ↓Zfz, ↓Zga, ↓Zgb, ↓Zgc, ↓Zgd, ↓Zge, ↓Zgf, ↓Zgg, ↓Zgh, ↓Zgi, ↓Zgj, ↓Zgk, ↓Zgl, ↓Zgm, ↓Zgn, ↓Zgo, ↓Zgp, ↓Zgq, ↓Zgr, ↓Zgs, ↓Zgt, ↓Zgu, ↓Zgv, ↓Zgw, ↓Zgx, ↓Zgy, ↓Zgz, ↓Zha, ↓Zhb, ↓Zhc, ↓Zhd, ↓Zhe, ↓Zhf, ↓Zhg, ↓Zhh, ↓Zhi, ↓Zhj, ↓Zhk, ↓Zhl, ↓Zhm, ↓Zhn, ↓Zho, ↓Zhp, ↓Zhq, ↓Zhr, ↓Zhs, ↓Zht, ↓Zhu, ↓Zhv, ↓Zhw, ↓Zhx, ↓Zhy, ↓Zhz, ↓Zia, ↓Zib, ↓Zic, ↓Zid, ↓Zie, ↓Zif, ↓Zig, ↓Zih, ↓Zii, ↓Zij, ↓Zik, ↓Zil, ↓Zim, ↓Zin, ↓Zio, ↓Ziq, ↓Zir, ↓Zis, ↓Zit, ↓Ziu, ↓Ziv, ↓Ziw, ↓Zix, ↓Ziy, ↓Ziz, ↓Zja, ↓Zjb, ↓Zjc, ↓Zjd, ↓Zje, ↓Zjf, ↓Zjg, ↓Zjh, ↓Zji, ↓Zjj, ↓Zjk, ↓Zjl, ↓Zjm, ↓Zjn, ↓Zjo, ↓Zjp, ↓Zjq, ↓Zjr, ↓Zjs, ↓Zjt, ↓Zju, ↓Zjv, ↓Zjw, ↓Zjx, ↓Zjy, ↓Zjz, ↓Zka, ↓Zkb, ↓Zkc, ↓Zkd, ↓Zke, ↓Zkf, ↓Zkg, ↓Zkh, ↓Zki, ↓Zkj, ↓Zkk, ↓Zkl, ↓Zkm, ↓Zkn, ↓Zko, ↓Zkp, ↓Zkq, ↓Zkr, ↓Zks, ↓Zkt, ↓Zku, ↓Zkv, ↓Zkw, ↓Zkx, ↓Zky, ↓Zkz, reduceIte, if_true, if_false, Bool.false_eq_true, Bool.and_true, Bool.true_and, Bool.and_false, Bool.false_and, Bool.or_true, Bool.true_or, Bool.or_false, Bool.false_or, Int.cast_ofNat_Int, Zla, Zlb, beq_self_eq_true, Int.reduceBEq, Int.reduceLT, Int.reduceLE, Int.reduceEq, Int.reduceNeg, Nat.reduceLT, Zlc, Zld, Zle, Zlf, Zlg, Zlh, Zli, Zlj, Zlk, Zll, Zlm, Zln, Zlo, Zlp, Zlq, Zlr, Zls, Zlt, Zlu, Zlv, Zlw, Zlx, Zly, Zlz, Zma, Zmb, Zmc, Zmd, Zme, Zmf, Zmg, Zmh, Zmi, Zmj, Zmk, Zml, Zmm, Zmn, Zmo, Zmp, Zmq, Zmr, Zms, Zmt, Zmu, Zmv, Zmw, Zmx, Zmy, Zmz, Zna, Znb, Znc, Znd, Zne, Znf, Zng, Znh, Zni, Znj, Znk, Znl, Znm, Znn, Zno, List.lookup_nil, Znp, Znq, Option.map_some, Option.map_none, Option.bind_some, Option.bind_none, List.map_nil, List.map_cons, List.nil_append, List.cons_append, List.append_nil, List.length_cons, List.length_nil, Nat.reduceAdd, Nat.reduceLeDiff, Nat.reduceEqDiff, Nat.reduceBEq, decide_true, decide_false, Bool.not_true, Bool.not_false, Znr, Zns, Znt, Znu, Znv, Znw, Znx, Zny, Znz, Zoa, Zob, Zoc, Zod, Zoe, List.getElem?_cons_zero, List.getElem?_cons_succ, Zof, Zog, Zoh, Zoi, Zoj, Zok, Zol, Zom, Zon, Zoo, Zop, Zoq, Zor, Zos, Zot, Zou, Zov, Zow, Zox, Zoy, setX, Zoz, Zpa, Zpb, Int.ofNat_lt, Int.ofNat_le, Zpc, Zpd, Zpe, Zpf, Zpg, Zph, e1, mod_ii hm, div_ii hm0, ix]
    rfl
  · have h0 : s0 = 0 := by have := hs.n0; omega
    subst h0
    have t1 := Int.emod_nonneg (s1 * 48271 + 11) (show (2147483647 : Int) ≠ 0 by decide)
    have t2 := Int.emod_lt_of_pos (s1 * 48271 + 11) (show (0 : Int) < 2147483647 by decide)
    refine ⟨((s1 * 48271 + 11) % 2147483647).fdiv 7 % m, 0, (s1 * 48271 + 11) % 2147483647, ?_, Int.emod_nonneg _ hm0, Int.emod_lt_of_pos _ hm, ⟨by decide, t1, t2⟩⟩
    apply run_law_take
    unfold g_law_take
    have m5 : mulOk s1 48271 = true := Bt.ok (Bt.s40 (by have := hs.n1; omega) (by have := hs.lt; omega)) (Bt.s40 (by decide) (by decide))
    have ix : ixN 2 (1 : Int) = some 1 := rfl
    simp -implicitDefEqProofs -dsimp only [↓Zaa, ↓Zab, ↓Zac, ↓Zad, ↓Zae, ↓Zaf, ↓Zag, ↓Zah, ↓Zai, ↓Zaj, ↓Zak, ↓Zal, ↓Zam, ↓Zan, ↓Zao, ↓Zap, ↓Zaq, ↓Zar, ↓Zas, ↓Zat, ↓Zau, ↓Zav, ↓Zaw, ↓Zax, ↓Zay, ↓Zaz, ↓Zba, ↓Zbb, ↓Zbc, ↓Zbd, ↓Zbe, ↓Zbf, ↓Zbg, ↓Zbh, ↓Zbi, ↓Zbj, ↓Zbk, ↓Zbl, ↓Zbm, ↓Zbn, ↓Zbo, ↓Zbp, ↓Zbq, ↓Zbr, ↓Zbs, ↓Zbt, ↓Zbu, ↓Zbv, ↓Zbw, ↓Zbx, ↓Zby, ↓Zbz, ↓Zca, ↓Zcb, ↓Zcc, ↓Zcd, ↓Zce, ↓Zcf, ↓Zcg, ↓Zch, ↓Zci, ↓Zcj, ↓Zck, ↓Zcl, ↓Zcm, ↓Zcn, ↓Zco, ↓Zcp, ↓Zcq, ↓Zcr, ↓Zcs, ↓Zct, ↓Zcu, ↓Zcv, ↓Zcw, ↓Zcx, ↓Zcy, ↓Zcz, ↓Zda, ↓Zdb, ↓Zdc, ↓Zdd, ↓Zde, ↓Zdf, ↓Zdg, ↓Zdh, ↓Zdi, ↓Zdj, ↓Zdk, ↓Zdl, ↓Zdm, ↓Zdn, ↓Zdo, ↓Zdp, ↓Zdq, ↓Zdr, ↓Zds, ↓Zdt, ↓Zdu, ↓Zdv, ↓Zdw, ↓Zdx, ↓Zdy, ↓Zdz, ↓Zea, ↓Zeb, ↓Zec, ↓Zed, ↓Zee, ↓Zef, ↓Zeg, ↓Zeh, ↓Zei, ↓Zej, ↓Zek, ↓Zel, ↓Zem, ↓Zen, ↓Zeo, ↓Zep, ↓Zeq, ↓Zer, ↓Zes, ↓Zet, ↓Zeu, ↓Zev, ↓Zew, ↓Zex, ↓Zey, ↓Zez, ↓Zfa, ↓Zfb, ↓Zfc, ↓Zfd, ↓Zfe, ↓Zff, ↓Zfg, ↓Zfh, ↓Zfi, ↓Zfj, ↓Zfk, ↓Zfl, ↓Zfm, ↓Zfn, ↓Zfo, ↓Zfp, ↓Zfq, ↓Zfr, ↓Zfs, ↓Zft, ↓Zfu, ↓Zfv, ↓Zfw, ↓Zfx, ↓Zfy, ↓Zfz, ↓Zga, ↓Zgb, ↓Zgc, ↓Zgd, ↓Zge, ↓Zgf, ↓Zgg, ↓Zgh, ↓Zgi, ↓Zgj, ↓Zgk, ↓Zgl, ↓Zgm, ↓Zgn, ↓Zgo, ↓Zgp, ↓Zgq, ↓Zgr, ↓Zgs, ↓Zgt, ↓Zgu, ↓Zgv, ↓Zgw, ↓Zgx, ↓Zgy, ↓Zgz, ↓Zha, ↓Zhb, ↓Zhc, ↓Zhd, ↓Zhe, ↓Zhf, ↓Zhg, ↓Zhh, ↓Zhi, ↓Zhj, ↓Zhk, ↓Zhl, ↓Zhm, ↓Zhn, ↓Zho, ↓Zhp, ↓Zhq, ↓Zhr, ↓Zhs, ↓Zht, ↓Zhu, ↓Zhv, ↓Zhw, ↓Zhx, ↓Zhy, ↓Zhz, ↓Zia, ↓Zib, ↓Zic, ↓Zid, ↓Zie, ↓Zif, ↓Zig, ↓Zih, ↓Zii, ↓Zij, ↓Zik, ↓Zil, ↓Zim, ↓Zin, ↓Zio, ↓Ziq, ↓Zir, ↓Zis, ↓Zit, ↓Ziu, ↓Ziv, ↓Ziw, ↓Zix, ↓Ziy, ↓Ziz, ↓Zja, ↓Zjb, ↓Zjc, ↓Zjd, ↓Zje, ↓Zjf, ↓Zjg, ↓Zjh, ↓Zji, ↓Zjj, ↓Zjk, ↓Zjl, ↓Zjm, ↓Zjn, ↓Zjo, ↓Zjp, ↓Zjq, ↓Zjr, ↓Zjs, ↓Zjt, ↓Zju, ↓Zjv, ↓Zjw, ↓Zjx, ↓Zjy, ↓Zjz, ↓Zka, ↓Zkb, ↓Zkc, ↓Zkd, ↓Zke, ↓Zkf, ↓Zkg, ↓Zkh, ↓Zki, ↓Zkj, ↓Zkk, ↓Zkl, ↓Zkm, ↓Zkn, ↓Zko, ↓Zkp, ↓Zkq, ↓Zkr, ↓Zks, ↓Zkt, ↓Zku, ↓Zkv, ↓Zkw, ↓Zkx, ↓Zky, ↓Zkz, reduceIte, if_true, if_false, Bool.false_eq_true, Bool.and_true, Bool.true_and, Bool.and_false, Bool.false_and, Bool.or_true, Bool.true_or, Bool.or_false, Bool.false_or, Int.cast_ofNat_Int, Zla, Zlb, beq_self_eq_true, Int.reduceBEq, Int.reduceLT, Int.reduceLE, Int.reduceEq, Int.reduceNeg, Nat.reduceLT, Zlc, Zld, Zle, Zlf, Zlg, Zlh, Zli, Zlj, Zlk, Zll, Zlm, Zln, Zlo, Zlp, Zlq, Zlr, Zls, Zlt, Zlu, Zlv, Zlw, Zlx, Zly, Zlz, Zma, Zmb, Zmc, Zmd, Zme, Zmf, Zmg, Zmh, Zmi, Zmj, Zmk, Zml, Zmm, Zmn, Zmo, Zmp, Zmq, Zmr, Zms, Zmt, Zmu, Zmv, Zmw, Zmx, Zmy, Zmz, Zna, Znb, Znc, Znd, Zne, Znf, Zng, Znh, Zni, Znj, Znk, Znl, Znm, Znn, Zno, List.lookup_nil, Znp, Znq, Option.map_some, Option.map_none, Option.bind_some, Option.bind_none, List.map_nil, List.map_cons, List.nil_append, List.cons_append, List.append_nil, List.length_cons, List.length_nil, Nat.reduceAdd, Nat.reduceLeDiff, Nat.reduceEqDiff, Nat.reduceBEq, decide_true, decide_false, Bool.not_true, Bool.not_false, Znr, Zns, Znt, Znu, Znv, Znw, Znx, Zny, Znz, Zoa, Zob, Zoc, Zod, Zoe, List.getElem?_cons_zero, List.getElem?_cons_succ, Zof, Zog, Zoh, Zoi, Zoj, Zok, Zol, Zom, Zon, Zoo, Zop, Zoq, Zor, Zos, Zot, Zou, Zov, Zow, Zox, Zoy, setX, Zoz, Zpa, Zpb, Int.ofNat_lt, Int.ofNat_le, Zpc, Zpd, Zpe, Zpf, Zpg, Zph, mul_ii m5, mod_ii (show (0 : Int) < 2147483647 by decide), div_ii (show (7 : Int) ≠ 0 by decide), mod_ii hm, ix, List.set_cons_succ, List.set_cons_zero]
theorem l_state (ns : List Int) (hl : ns.length ≤ 63) (hb : ∀ z ∈ ns, PySem.Builtin.Int.intBits z ≤ 1048576) : ∃ s0 s1 : Int, φ_law_state [.val (.ro (ns.map D.int))] = .ok (.o (stD s0 s1)) [] ∧ St2 s0 s1 := by
  refine runP_law_state (P := fun z => ∃ s0 s1 : Int, z = .ok (.o (stD s0 s1)) [] ∧ St2 s0 s1) ?_
  unfold g_law_state
  have ec : cut (ns.map D.int) none (some 63) = ns.map D.int := (Zow (k := 63)).trans (List.take_of_length_le (by simpa using hl))
  simp -implicitDefEqProofs -dsimp only [↓Zaa, ↓Zab, ↓Zac, ↓Zad, ↓Zae, ↓Zaf, ↓Zag, ↓Zah, ↓Zai, ↓Zaj, ↓Zak, ↓Zal, ↓Zam, ↓Zan, ↓Zao, ↓Zap, ↓Zaq, ↓Zar, ↓Zas, ↓Zat, ↓Zau, ↓Zav, ↓Zaw, ↓Zax, ↓Zay, ↓Zaz, ↓Zba, ↓Zbb, ↓Zbc, ↓Zbd, ↓Zbe, ↓Zbf, ↓Zbg, ↓Zbh, ↓Zbi, ↓Zbj, ↓Zbk, ↓Zbl, ↓Zbm, ↓Zbn, ↓Zbo, ↓Zbp, ↓Zbq, ↓Zbr, ↓Zbs, ↓Zbt, ↓Zbu, ↓Zbv, ↓Zbw, ↓Zbx, ↓Zby, ↓Zbz, ↓Zca, ↓Zcb, ↓Zcc, ↓Zcd, ↓Zce, ↓Zcf, ↓Zcg, ↓Zch, ↓Zci, ↓Zcj, ↓Zck, ↓Zcl, ↓Zcm, ↓Zcn, ↓Zco, ↓Zcp, ↓Zcq, ↓Zcr, ↓Zcs, ↓Zct, ↓Zcu, ↓Zcv, ↓Zcw, ↓Zcx, ↓Zcy, ↓Zcz, ↓Zda, ↓Zdb, ↓Zdc, ↓Zdd, ↓Zde, ↓Zdf, ↓Zdg, ↓Zdh, ↓Zdi, ↓Zdj, ↓Zdk, ↓Zdl, ↓Zdm, ↓Zdn, ↓Zdo, ↓Zdp, ↓Zdq, ↓Zdr, ↓Zds, ↓Zdt, ↓Zdu, ↓Zdv, ↓Zdw, ↓Zdx, ↓Zdy, ↓Zdz, ↓Zea, ↓Zeb, ↓Zec, ↓Zed, ↓Zee, ↓Zef, ↓Zeg, ↓Zeh, ↓Zei, ↓Zej, ↓Zek, ↓Zel, ↓Zem, ↓Zen, ↓Zeo, ↓Zep, ↓Zeq, ↓Zer, ↓Zes, ↓Zet, ↓Zeu, ↓Zev, ↓Zew, ↓Zex, ↓Zey, ↓Zez, ↓Zfa, ↓Zfb, ↓Zfc, ↓Zfd, ↓Zfe, ↓Zff, ↓Zfg, ↓Zfh, ↓Zfi, ↓Zfj, ↓Zfk, ↓Zfl, ↓Zfm, ↓Zfn, ↓Zfo, ↓Zfp, ↓Zfq, ↓Zfr, ↓Zfs, ↓Zft, ↓Zfu, ↓Zfv, ↓Zfw, ↓Zfx, ↓Zfy, ↓Zfz, ↓Zga, ↓Zgb, ↓Zgc, ↓Zgd, ↓Zge, ↓Zgf, ↓Zgg, ↓Zgh, ↓Zgi, ↓Zgj, ↓Zgk, ↓Zgl, ↓Zgm, ↓Zgn, ↓Zgo, ↓Zgp, ↓Zgq, ↓Zgr, ↓Zgs, ↓Zgt, ↓Zgu, ↓Zgv, ↓Zgw, ↓Zgx, ↓Zgy, ↓Zgz, ↓Zha, ↓Zhb, ↓Zhc, ↓Zhd, ↓Zhe, ↓Zhf, ↓Zhg, ↓Zhh, ↓Zhi, ↓Zhj, ↓Zhk, ↓Zhl, ↓Zhm, ↓Zhn, ↓Zho, ↓Zhp, ↓Zhq, ↓Zhr, ↓Zhs, ↓Zht, ↓Zhu, ↓Zhv, ↓Zhw, ↓Zhx, ↓Zhy, ↓Zhz, ↓Zia, ↓Zib, ↓Zic, ↓Zid, ↓Zie, ↓Zif, ↓Zig, ↓Zih, ↓Zii, ↓Zij, ↓Zik, ↓Zil, ↓Zim, ↓Zin, ↓Zio, ↓Ziq, ↓Zir, ↓Zis, ↓Zit, ↓Ziu, ↓Ziv, ↓Ziw, ↓Zix, ↓Ziy, ↓Ziz, ↓Zja, ↓Zjb, ↓Zjc, ↓Zjd, ↓Zje, ↓Zjf, ↓Zjg, ↓Zjh, ↓Zji, ↓Zjj, ↓Zjk, ↓Zjl, ↓Zjm, ↓Zjn, ↓Zjo, ↓Zjp, ↓Zjq, ↓Zjr, ↓Zjs, ↓Zjt, ↓Zju, ↓Zjv, ↓Zjw, ↓Zjx, ↓Zjy, ↓Zjz, ↓Zka, ↓Zkb, ↓Zkc, ↓Zkd, ↓Zke, ↓Zkf, ↓Zkg, ↓Zkh, ↓Zki, ↓Zkj, ↓Zkk, ↓Zkl, ↓Zkm, ↓Zkn, ↓Zko, ↓Zkp, ↓Zkq, ↓Zkr, ↓Zks, ↓Zkt, ↓Zku, ↓Zkv, ↓Zkw, ↓Zkx, ↓Zky, ↓Zkz, reduceIte, if_true, if_false, Bool.false_eq_true, Bool.and_true, Bool.true_and, Bool.and_false, Bool.false_and, Bool.or_true, Bool.true_or, Bool.or_false, Bool.false_or, Int.cast_ofNat_Int, Zla, Zlb, beq_self_eq_true, Int.reduceBEq, Int.reduceLT, Int.reduceLE, Int.reduceEq, Int.reduceNeg, Nat.reduceLT, Zlc, Zld, Zle, Zlf, Zlg, Zlh, Zli, Zlj, Zlk, Zll, Zlm, Zln, Zlo, Zlp, Zlq, Zlr, Zls, Zlt, Zlu, Zlv, Zlw, Zlx, Zly, Zlz, Zma, Zmb, Zmc, Zmd, Zme, Zmf, Zmg, Zmh, Zmi, Zmj, Zmk, Zml, Zmm, Zmn, Zmo, Zmp, Zmq, Zmr, Zms, Zmt, Zmu, Zmv, Zmw, Zmx, Zmy, Zmz, Zna, Znb, Znc, Znd, Zne, Znf, Zng, Znh, Zni, Znj, Znk, Znl, Znm, Znn, Zno, List.lookup_nil, Znp, Znq, Option.map_some, Option.map_none, Option.bind_some, Option.bind_none, List.map_nil, List.map_cons, List.nil_append, List.cons_append, List.append_nil, List.length_cons, List.length_nil, Nat.reduceAdd, Nat.reduceLeDiff, Nat.reduceEqDiff, Nat.reduceBEq, decide_true, decide_false, Bool.not_true, Bool.not_false, Znr, Zns, Znt, Znu, Znv, Znw, Znx, Zny, Znz, Zoa, Zob, Zoc, Zod, Zoe, List.getElem?_cons_zero, List.getElem?_cons_succ, Zof, Zog, Zoh, Zoi, Zoj, Zok, Zol, Zom, Zon, Zoo, Zop, Zoq, Zor, Zos, Zot, Zou, Zov, Zow, Zox, Zoy, setX, Zoz, Zpa, Zpb, Int.ofNat_lt, Int.ofNat_le, Zpc, Zpd, Zpe, Zpf, Zpg, Zph, ec]
  refine for_l (fun i e => ∃ (s t : Int) (x : SV), e = [.val (.ro (ns.map D.int)), .val (.int s), .val (.int t), x] ∧ Fr1 x ∧ 0 ≤ s ∧ Bt (1048577 + 21 * i) s ∧ 0 ≤ t ∧ t < 2147483647) ?_ ?_ ?_
  · exact ⟨0, 1, .un, rfl, .un, by decide, .zero, by decide, by decide⟩
  · rintro i e hi ⟨s, t, x, rfl, hx, hs0, hs1, ht0, ht1⟩
    have b1 : Bt 20 1000003 := .of (by decide)
    have m1 : mulOk s 1000003 = true := Bt.ok hs1 b1 (l := by omega) (ha := by omega)
    have m2 : mulOk t 48271 = true := Bt.ok (Bt.s40 (by omega) (by omega)) (Bt.s40 (by decide) (by decide))
    have hc : Bt 1048576 (ns[i].natAbs : Int) := .of (by rw [Int.natAbs_natCast]; exact (Bt.bits (hb _ (List.getElem_mem hi))).lt)
    have hs2 := hs1.mul b1
    have hsum : Bt (1048577 + 21 * (i + 1)) (s * 1000003 + (ns[i].natAbs : Int)) := (Bt.add hs2 (hc.mono (by omega))).mono (by omega)
    simp -implicitDefEqProofs -dsimp only [↓Zaa, ↓Zab, ↓Zac, ↓Zad, ↓Zae, ↓Zaf, ↓Zag, ↓Zah, ↓Zai, ↓Zaj, ↓Zak, ↓Zal, ↓Zam, ↓Zan, ↓Zao, ↓Zap, ↓Zaq, ↓Zar, ↓Zas, ↓Zat, ↓Zau, ↓Zav, ↓Zaw, ↓Zax, ↓Zay, ↓Zaz, ↓Zba, ↓Zbb, ↓Zbc, ↓Zbd, ↓Zbe, ↓Zbf, ↓Zbg, ↓Zbh, ↓Zbi, ↓Zbj, ↓Zbk, ↓Zbl, ↓Zbm, ↓Zbn, ↓Zbo, ↓Zbp, ↓Zbq, ↓Zbr, ↓Zbs, ↓Zbt, ↓Zbu, ↓Zbv, ↓Zbw, ↓Zbx, ↓Zby, ↓Zbz, ↓Zca, ↓Zcb, ↓Zcc, ↓Zcd, ↓Zce, ↓Zcf, ↓Zcg, ↓Zch, ↓Zci, ↓Zcj, ↓Zck, ↓Zcl, ↓Zcm, ↓Zcn, ↓Zco, ↓Zcp, ↓Zcq, ↓Zcr, ↓Zcs, ↓Zct, ↓Zcu, ↓Zcv, ↓Zcw, ↓Zcx, ↓Zcy, ↓Zcz, ↓Zda, ↓Zdb, ↓Zdc, ↓Zdd, ↓Zde, ↓Zdf, ↓Zdg, ↓Zdh, ↓Zdi, ↓Zdj, ↓Zdk, ↓Zdl, ↓Zdm, ↓Zdn, ↓Zdo, ↓Zdp, ↓Zdq, ↓Zdr, ↓Zds, ↓Zdt, ↓Zdu, ↓Zdv, ↓Zdw, ↓Zdx, ↓Zdy, ↓Zdz, ↓Zea, ↓Zeb, ↓Zec, ↓Zed, ↓Zee, ↓Zef, ↓Zeg, ↓Zeh, ↓Zei, ↓Zej, ↓Zek, ↓Zel, ↓Zem, ↓Zen, ↓Zeo, ↓Zep, ↓Zeq, ↓Zer, ↓Zes, ↓Zet, ↓Zeu, ↓Zev, ↓Zew, ↓Zex, ↓Zey, ↓Zez, ↓Zfa, ↓Zfb, ↓Zfc, ↓Zfd, ↓Zfe, ↓Zff, ↓Zfg, ↓Zfh, ↓Zfi, ↓Zfj, ↓Zfk, ↓Zfl, ↓Zfm, ↓Zfn, ↓Zfo, ↓Zfp, ↓Zfq, ↓Zfr, ↓Zfs, ↓Zft, ↓Zfu, ↓Zfv, ↓Zfw, ↓Zfx, ↓Zfy, ↓Zfz, ↓Zga, ↓Zgb, ↓Zgc, ↓Zgd, ↓Zge, ↓Zgf, ↓Zgg, ↓Zgh, ↓Zgi, ↓Zgj, ↓Zgk, ↓Zgl, ↓Zgm, ↓Zgn, ↓Zgo, ↓Zgp, ↓Zgq, ↓Zgr, ↓Zgs, ↓Zgt, ↓Zgu, ↓Zgv, ↓Zgw, ↓Zgx, ↓Zgy, ↓Zgz, ↓Zha, ↓Zhb, ↓Zhc, ↓Zhd, ↓Zhe, ↓Zhf, ↓Zhg, ↓Zhh, ↓Zhi, ↓Zhj, ↓Zhk, ↓Zhl, ↓Zhm, ↓Zhn, ↓Zho, ↓Zhp, ↓Zhq, ↓Zhr, ↓Zhs, ↓Zht, ↓Zhu, ↓Zhv, ↓Zhw, ↓Zhx, ↓Zhy, ↓Zhz, ↓Zia, ↓Zib, ↓Zic, ↓Zid, ↓Zie, ↓Zif, ↓Zig, ↓Zih, ↓Zii, ↓Zij, ↓Zik, ↓Zil, ↓Zim, ↓Zin, ↓Zio, ↓Ziq, ↓Zir, ↓Zis, ↓Zit, ↓Ziu, ↓Ziv, ↓Ziw, ↓Zix, ↓Ziy, ↓Ziz, ↓Zja, ↓Zjb, ↓Zjc, ↓Zjd, ↓Zje, ↓Zjf, ↓Zjg, ↓Zjh, ↓Zji, ↓Zjj, ↓Zjk, ↓Zjl, ↓Zjm, ↓Zjn, ↓Zjo, ↓Zjp, ↓Zjq, ↓Zjr, ↓Zjs, ↓Zjt, ↓Zju, ↓Zjv, ↓Zjw, ↓Zjx, ↓Zjy, ↓Zjz, ↓Zka, ↓Zkb, ↓Zkc, ↓Zkd, ↓Zke, ↓Zkf, ↓Zkg, ↓Zkh, ↓Zki, ↓Zkj, ↓Zkk, ↓Zkl, ↓Zkm, ↓Zkn, ↓Zko, ↓Zkp, ↓Zkq, ↓Zkr, ↓Zks, ↓Zkt, ↓Zku, ↓Zkv, ↓Zkw, ↓Zkx, ↓Zky, ↓Zkz, reduceIte, if_true, if_false, Bool.false_eq_true, Bool.and_true, Bool.true_and, Bool.and_false, Bool.false_and, Bool.or_true, Bool.true_or, Bool.or_false, Bool.false_or, Int.cast_ofNat_Int, Zla, Zlb, beq_self_eq_true, Int.reduceBEq, Int.reduceLT, Int.reduceLE, Int.reduceEq, Int.reduceNeg, Nat.reduceLT, Zlc, Zld, Zle, Zlf, Zlg, Zlh, Zli, Zlj, Zlk, Zll, Zlm, Zln, Zlo, Zlp, Zlq, Zlr, Zls, Zlt, Zlu, Zlv, Zlw, Zlx, Zly, Zlz, Zma, Zmb, Zmc, Zmd, Zme, Zmf, Zmg, Zmh, Zmi, Zmj, Zmk, Zml, Zmm, Zmn, Zmo, Zmp, Zmq, Zmr, Zms, Zmt, Zmu, Zmv, Zmw, Zmx, Zmy, Zmz, Zna, Znb, Znc, Znd, Zne, Znf, Zng, Znh, Zni, Znj, Znk, Znl, Znm, Znn, Zno, List.lookup_nil, Znp, Znq, Option.map_some, Option.map_none, Option.bind_some, Option.bind_none, List.map_nil, List.map_cons, List.nil_append, List.cons_append, List.append_nil, List.length_cons, List.length_nil, Nat.reduceAdd, Nat.reduceLeDiff, Nat.reduceEqDiff, Nat.reduceBEq, decide_true, decide_false, Bool.not_true, Bool.not_false, Znr, Zns, Znt, Znu, Znv, Znw, Znx, Zny, Znz, Zoa, Zob, Zoc, Zod, Zoe, List.getElem?_cons_zero, List.getElem?_cons_succ, Zof, Zog, Zoh, Zoi, Zoj, Zok, Zol, Zom, Zon, Zoo, Zop, Zoq, Zor, Zos, Zot, Zou, Zov, Zow, Zox, Zoy, setX, Zoz, Zpa, Zpb, Int.ofNat_lt, Int.ofNat_le, Zpc, Zpd, Zpe, Zpf, Zpg, Zph, hx, mul_ii m1, mul_ii m2, mod_ii (show (0 : Int) < 2147483647 by decide)]
    have p1 : 0 ≤ s * 1000003 := Int.mul_nonneg hs0 (by decide)
    exact ⟨_, _, _, rfl, .val, by omega, hsum, Int.emod_nonneg _ (by decide), Int.emod_lt_of_pos _ (by decide)⟩
  · rintro e ⟨s, t, x, rfl, hx, hs0, hs1, ht0, ht1⟩
    simp -implicitDefEqProofs -dsimp only [↓Zaa, ↓Zab, ↓Zac, ↓Zad, ↓Zae, ↓Zaf, ↓Zag, ↓Zah, ↓Zai, ↓Zaj, ↓Zak, ↓Zal, ↓Zam, ↓Zan, ↓Zao, ↓Zap, ↓Zaq, ↓Zar, ↓Zas, ↓Zat, ↓Zau, ↓Zav, ↓Zaw, ↓Zax, ↓Zay, ↓Zaz, ↓Zba, ↓Zbb, ↓Zbc, ↓Zbd, ↓Zbe, ↓Zbf, ↓Zbg, ↓Zbh, ↓Zbi, ↓Zbj, ↓Zbk, ↓Zbl, ↓Zbm, ↓Zbn, ↓Zbo, ↓Zbp, ↓Zbq, ↓Zbr, ↓Zbs, ↓Zbt, ↓Zbu, ↓Zbv, ↓Zbw, ↓Zbx, ↓Zby, ↓Zbz, ↓Zca, ↓Zcb, ↓Zcc, ↓Zcd, ↓Zce, ↓Zcf, ↓Zcg, ↓Zch, ↓Zci, ↓Zcj, ↓Zck, ↓Zcl, ↓Zcm, ↓Zcn, ↓Zco, ↓Zcp, ↓Zcq, ↓Zcr, ↓Zcs, ↓Zct, ↓Zcu, ↓Zcv, ↓Zcw, ↓Zcx, ↓Zcy, ↓Zcz, ↓Zda, ↓Zdb, ↓Zdc, ↓Zdd, ↓Zde, ↓Zdf, ↓Zdg, ↓Zdh, ↓Zdi, ↓Zdj, ↓Zdk, ↓Zdl, ↓Zdm, ↓Zdn, ↓Zdo, ↓Zdp, ↓Zdq, ↓Zdr, ↓Zds, ↓Zdt, ↓Zdu, ↓Zdv, ↓Zdw, ↓Zdx, ↓Zdy, ↓Zdz, ↓Zea, ↓Zeb, ↓Zec, ↓Zed, ↓Zee, ↓Zef, ↓Zeg, ↓Zeh, ↓Zei, ↓Zej, ↓Zek, ↓Zel, ↓Zem, ↓Zen, ↓Zeo, ↓Zep, ↓Zeq, ↓Zer, ↓Zes, ↓Zet, ↓Zeu, ↓Zev, ↓Zew, ↓Zex, ↓Zey, ↓Zez, ↓Zfa, ↓Zfb, ↓Zfc, ↓Zfd, ↓Zfe, ↓Zff, ↓Zfg, ↓Zfh, ↓Zfi, ↓Zfj, ↓Zfk, ↓Zfl, ↓Zfm, ↓Zfn, ↓Zfo, ↓Zfp, ↓Zfq, ↓Zfr, ↓Zfs, ↓Zft, ↓Zfu, ↓Zfv, ↓Zfw, ↓Zfx, ↓Zfy, ↓Zfz, ↓Zga, ↓Zgb, ↓Zgc, ↓Zgd, ↓Zge, ↓Zgf, ↓Zgg, ↓Zgh, ↓Zgi, ↓Zgj, ↓Zgk, ↓Zgl, ↓Zgm, ↓Zgn, ↓Zgo, ↓Zgp, ↓Zgq, ↓Zgr, ↓Zgs, ↓Zgt, ↓Zgu, ↓Zgv, ↓Zgw, ↓Zgx, ↓Zgy, ↓Zgz, ↓Zha, ↓Zhb, ↓Zhc, ↓Zhd, ↓Zhe, ↓Zhf, ↓Zhg, ↓Zhh, ↓Zhi, ↓Zhj, ↓Zhk, ↓Zhl, ↓Zhm, ↓Zhn, ↓Zho, ↓Zhp, ↓Zhq, ↓Zhr, ↓Zhs, ↓Zht, ↓Zhu, ↓Zhv, ↓Zhw, ↓Zhx, ↓Zhy, ↓Zhz, ↓Zia, ↓Zib, ↓Zic, ↓Zid, ↓Zie, ↓Zif, ↓Zig, ↓Zih, ↓Zii, ↓Zij, ↓Zik, ↓Zil, ↓Zim, ↓Zin, ↓Zio, ↓Ziq, ↓Zir, ↓Zis, ↓Zit, ↓Ziu, ↓Ziv, ↓Ziw, ↓Zix, ↓Ziy, ↓Ziz, ↓Zja, ↓Zjb, ↓Zjc, ↓Zjd, ↓Zje, ↓Zjf, ↓Zjg, ↓Zjh, ↓Zji, ↓Zjj, ↓Zjk, ↓Zjl, ↓Zjm, ↓Zjn, ↓Zjo, ↓Zjp, ↓Zjq, ↓Zjr, ↓Zjs, ↓Zjt, ↓Zju, ↓Zjv, ↓Zjw, ↓Zjx, ↓Zjy, ↓Zjz, ↓Zka, ↓Zkb, ↓Zkc, ↓Zkd, ↓Zke, ↓Zkf, ↓Zkg, ↓Zkh, ↓Zki, ↓Zkj, ↓Zkk, ↓Zkl, ↓Zkm, ↓Zkn, ↓Zko, ↓Zkp, ↓Zkq, ↓Zkr, ↓Zks, ↓Zkt, ↓Zku, ↓Zkv, ↓Zkw, ↓Zkx, ↓Zky, ↓Zkz, reduceIte, if_true, if_false, Bool.false_eq_true, Bool.and_true, Bool.true_and, Bool.and_false, Bool.false_and, Bool.or_true, Bool.true_or, Bool.or_false, Bool.false_or, Int.cast_ofNat_Int, Zla, Zlb, beq_self_eq_true, Int.reduceBEq, Int.reduceLT, Int.reduceLE, Int.reduceEq, Int.reduceNeg, Nat.reduceLT, Zlc, Zld, Zle, Zlf, Zlg, Zlh, Zli, Zlj, Zlk, Zll, Zlm, Zln, Zlo, Zlp, Zlq, Zlr, Zls, Zlt, Zlu, Zlv, Zlw, Zlx, Zly, Zlz, Zma, Zmb, Zmc, Zmd, Zme, Zmf, Zmg, Zmh, Zmi, Zmj, Zmk, Zml, Zmm, Zmn, Zmo, Zmp, Zmq, Zmr, Zms, Zmt, Zmu, Zmv, Zmw, Zmx, Zmy, Zmz, Zna, Znb, Znc, Znd, Zne, Znf, Zng, Znh, Zni, Znj, Znk, Znl, Znm, Znn, Zno, List.lookup_nil, Znp, Znq, Option.map_some, Option.map_none, Option.bind_some, Option.bind_none, List.map_nil, List.map_cons, List.nil_append, List.cons_append, List.append_nil, List.length_cons, List.length_nil, Nat.reduceAdd, Nat.reduceLeDiff, Nat.reduceEqDiff, Nat.reduceBEq, decide_true, decide_false, Bool.not_true, Bool.not_false, Znr, Zns, Znt, Znu, Znv, Znw, Znx, Zny, Znz, Zoa, Zob, Zoc, Zod, Zoe, List.getElem?_cons_zero, List.getElem?_cons_succ, Zof, Zog, Zoh, Zoi, Zoj, Zok, Zol, Zom, Zon, Zoo, Zop, Zoq, Zor, Zos, Zot, Zou, Zov, Zow, Zox, Zoy, setX, Zoz, Zpa, Zpb, Int.ofNat_lt, Int.ofNat_le, Zpc, Zpd, Zpe, Zpf, Zpg, Zph]
    exact ⟨s, t, rfl, hs0, ht0, ht1⟩
theorem join_sg : ∀ {w : List Nat}, TL.joinL [] (w.map fun c => [c]) = w
  | [] => rfl
  | a :: w => by
    rw [joinL_nil]
    show ([a] :: w.map fun c => [c]).flatten = _
    rw [List.flatten_cons]
    have := join_sg (w := w)
    rw [joinL_nil] at this
    rw [this]
    rfl
abbrev Lw (w : List Nat) : Prop := ∀ c ∈ w, 97 ≤ c ∧ c ≤ 122
theorem l_abc {s0 s1 : Int} {k n : Nat} (hs : St2 s0 s1) (hk : 0 < k) (hk4 : k ≤ 4) (hn : n ≤ 100) : ∃ (w : List Nat) (t0 t1 : Int), φ_law_abc [.own true (stD s0 s1), .val (.int k), .val (.int n)] = .ok (.d (.str w)) [(0, stD t0 t1)] ∧ w.length = n ∧ Lw w ∧ St2 t0 t1 := by
  refine runP_law_abc (P := fun z => ∃ (w : List Nat) (t0 t1 : Int), z = .ok (.d (.str w)) [(0, stD t0 t1)] ∧ w.length = n ∧ Lw w ∧ St2 t0 t1) ?_
  unfold g_law_abc
  have hsn := smI_ok (show n ≤ 16777216 by omega)
  simp -implicitDefEqProofs -dsimp only [↓Zaa, ↓Zab, ↓Zac, ↓Zad, ↓Zae, ↓Zaf, ↓Zag, ↓Zah, ↓Zai, ↓Zaj, ↓Zak, ↓Zal, ↓Zam, ↓Zan, ↓Zao, ↓Zap, ↓Zaq, ↓Zar, ↓Zas, ↓Zat, ↓Zau, ↓Zav, ↓Zaw, ↓Zax, ↓Zay, ↓Zaz, ↓Zba, ↓Zbb, ↓Zbc, ↓Zbd, ↓Zbe, ↓Zbf, ↓Zbg, ↓Zbh, ↓Zbi, ↓Zbj, ↓Zbk, ↓Zbl, ↓Zbm, ↓Zbn, ↓Zbo, ↓Zbp, ↓Zbq, ↓Zbr, ↓Zbs, ↓Zbt, ↓Zbu, ↓Zbv, ↓Zbw, ↓Zbx, ↓Zby, ↓Zbz, ↓Zca, ↓Zcb, ↓Zcc, ↓Zcd, ↓Zce, ↓Zcf, ↓Zcg, ↓Zch, ↓Zci, ↓Zcj, ↓Zck, ↓Zcl, ↓Zcm, ↓Zcn, ↓Zco, ↓Zcp, ↓Zcq, ↓Zcr, ↓Zcs, ↓Zct, ↓Zcu, ↓Zcv, ↓Zcw, ↓Zcx, ↓Zcy, ↓Zcz, ↓Zda, ↓Zdb, ↓Zdc, ↓Zdd, ↓Zde, ↓Zdf, ↓Zdg, ↓Zdh, ↓Zdi, ↓Zdj, ↓Zdk, ↓Zdl, ↓Zdm, ↓Zdn, ↓Zdo, ↓Zdp, ↓Zdq, ↓Zdr, ↓Zds, ↓Zdt, ↓Zdu, ↓Zdv, ↓Zdw, ↓Zdx, ↓Zdy, ↓Zdz, ↓Zea, ↓Zeb, ↓Zec, ↓Zed, ↓Zee, ↓Zef, ↓Zeg, ↓Zeh, ↓Zei, ↓Zej, ↓Zek, ↓Zel, ↓Zem, ↓Zen, ↓Zeo, ↓Zep, ↓Zeq, ↓Zer, ↓Zes, ↓Zet, ↓Zeu, ↓Zev, ↓Zew, ↓Zex, ↓Zey, ↓Zez, ↓Zfa, ↓Zfb, ↓Zfc, ↓Zfd, ↓Zfe, ↓Zff, ↓Zfg, ↓Zfh, ↓Zfi, ↓Zfj, ↓Zfk, ↓Zfl, ↓Zfm, ↓Zfn, ↓Zfo, ↓Zfp, ↓Zfq, ↓Zfr, ↓Zfs, ↓Zft, ↓Zfu, ↓Zfv, ↓Zfw, ↓Zfx, ↓Zfy, ↓Zfz, ↓Zga, ↓Zgb, ↓Zgc, ↓Zgd, ↓Zge, ↓Zgf, ↓Zgg, ↓Zgh, ↓Zgi, ↓Zgj, ↓Zgk, ↓Zgl, ↓Zgm, ↓Zgn, ↓Zgo, ↓Zgp, ↓Zgq, ↓Zgr, ↓Zgs, ↓Zgt, ↓Zgu, ↓Zgv, ↓Zgw, ↓Zgx, ↓Zgy, ↓Zgz, ↓Zha, ↓Zhb, ↓Zhc, ↓Zhd, ↓Zhe, ↓Zhf, ↓Zhg, ↓Zhh, ↓Zhi, ↓Zhj, ↓Zhk, ↓Zhl, ↓Zhm, ↓Zhn, ↓Zho, ↓Zhp, ↓Zhq, ↓Zhr, ↓Zhs, ↓Zht, ↓Zhu, ↓Zhv, ↓Zhw, ↓Zhx, ↓Zhy, ↓Zhz, ↓Zia, ↓Zib, ↓Zic, ↓Zid, ↓Zie, ↓Zif, ↓Zig, ↓Zih, ↓Zii, ↓Zij, ↓Zik, ↓Zil, ↓Zim, ↓Zin, ↓Zio, ↓Ziq, ↓Zir, ↓Zis, ↓Zit, ↓Ziu, ↓Ziv, ↓Ziw, ↓Zix, ↓Ziy, ↓Ziz, ↓Zja, ↓Zjb, ↓Zjc, ↓Zjd, ↓Zje, ↓Zjf, ↓Zjg, ↓Zjh, ↓Zji, ↓Zjj, ↓Zjk, ↓Zjl, ↓Zjm, ↓Zjn, ↓Zjo, ↓Zjp, ↓Zjq, ↓Zjr, ↓Zjs, ↓Zjt, ↓Zju, ↓Zjv, ↓Zjw, ↓Zjx, ↓Zjy, ↓Zjz, ↓Zka, ↓Zkb, ↓Zkc, ↓Zkd, ↓Zke, ↓Zkf, ↓Zkg, ↓Zkh, ↓Zki, ↓Zkj, ↓Zkk, ↓Zkl, ↓Zkm, ↓Zkn, ↓Zko, ↓Zkp, ↓Zkq, ↓Zkr, ↓Zks, ↓Zkt, ↓Zku, ↓Zkv, ↓Zkw, ↓Zkx, ↓Zky, ↓Zkz, reduceIte, if_true, if_false, Bool.false_eq_true, Bool.and_true, Bool.true_and, Bool.and_false, Bool.false_and, Bool.or_true, Bool.true_or, Bool.or_false, Bool.false_or, Int.cast_ofNat_Int, Zla, Zlb, beq_self_eq_true, Int.reduceBEq, Int.reduceLT, Int.reduceLE, Int.reduceEq, Int.reduceNeg, Nat.reduceLT, Zlc, Zld, Zle, Zlf, Zlg, Zlh, Zli, Zlj, Zlk, Zll, Zlm, Zln, Zlo, Zlp, Zlq, Zlr, Zls, Zlt, Zlu, Zlv, Zlw, Zlx, Zly, Zlz, Zma, Zmb, Zmc, Zmd, Zme, Zmf, Zmg, Zmh, Zmi, Zmj, Zmk, Zml, Zmm, Zmn, Zmo, Zmp, Zmq, Zmr, Zms, Zmt, Zmu, Zmv, Zmw, Zmx, Zmy, Zmz, Zna, Znb, Znc, Znd, Zne, Znf, Zng, Znh, Zni, Znj, Znk, Znl, Znm, Znn, Zno, List.lookup_nil, Znp, Znq, Option.map_some, Option.map_none, Option.bind_some, Option.bind_none, List.map_nil, List.map_cons, List.nil_append, List.cons_append, List.append_nil, List.length_cons, List.length_nil, Nat.reduceAdd, Nat.reduceLeDiff, Nat.reduceEqDiff, Nat.reduceBEq, decide_true, decide_false, Bool.not_true, Bool.not_false, Znr, Zns, Znt, Znu, Znv, Znw, Znx, Zny, Znz, Zoa, Zob, Zoc, Zod, Zoe, List.getElem?_cons_zero, List.getElem?_cons_succ, Zof, Zog, Zoh, Zoi, Zoj, Zok, Zol, Zom, Zon, Zoo, Zop, Zoq, Zor, Zos, Zot, Zou, Zov, Zow, Zox, Zoy, setX, Zoz, Zpa, Zpb, Int.ofNat_lt, Int.ofNat_le, Zpc, Zpd, Zpe, Zpf, Zpg, Zph, hsn]
  refine lc_thr (fun i acc e => ∃ (w : List Nat) (t0 t1 : Int), acc = (w.map fun c => .str [c]) ∧ w.length = i ∧ Lw w ∧ St2 t0 t1 ∧ e = [.own true (stD t0 t1), .val (.int k), .val (.int n), .un]) rfl (by rw [rng_vec, vec_len]; omega) ⟨[], s0, s1, rfl, rfl, (by intro c hc; cases hc), hs, rfl⟩ ?_ ?_
  · rintro i d acc e hd ha ⟨w, t0, t1, rfl, hl, hw, hst, rfl⟩
    rw [rng_vec, vec_get'] at hd
    split at hd
    · cases hd
      obtain ⟨x, a0, a1, p1, x0, x1, h1⟩ := l_take (m := (k : Int)) hst (by omega)
      obtain ⟨j, rfl⟩ : ∃ j : Nat, x = j := ⟨x.toNat, by omega⟩
      have hj : j < [97, 98, 99, 100].length := by show j < 4; omega
      have l4 : [97, 98, 99, 100].length ≤ 16777216 := by decide
      obtain ⟨c, hc, hc2⟩ : ∃ c, atI [97, 98, 99, 100] (j : Int) = some c ∧ 97 ≤ c ∧ c ≤ 122 := by
        rw [Zlv, List.getElem?_eq_getElem hj]
        refine ⟨_, rfl, ?_⟩
        have : [97, 98, 99, 100][j] ∈ [97, 98, 99, 100] := List.getElem_mem hj
        simp only [List.mem_cons, List.not_mem_nil, or_false] at this
        omega
      simp -implicitDefEqProofs -dsimp only [↓Zaa, ↓Zab, ↓Zac, ↓Zad, ↓Zae, ↓Zaf, ↓Zag, ↓Zah, ↓Zai, ↓Zaj, ↓Zak, ↓Zal, ↓Zam, ↓Zan, ↓Zao, ↓Zap, ↓Zaq, ↓Zar, ↓Zas, ↓Zat, ↓Zau, ↓Zav, ↓Zaw, ↓Zax, ↓Zay, ↓Zaz, ↓Zba, ↓Zbb, ↓Zbc, ↓Zbd, ↓Zbe, ↓Zbf, ↓Zbg, ↓Zbh, ↓Zbi, ↓Zbj, ↓Zbk, ↓Zbl, ↓Zbm, ↓Zbn, ↓Zbo, ↓Zbp, ↓Zbq, ↓Zbr, ↓Zbs, ↓Zbt, ↓Zbu, ↓Zbv, ↓Zbw, ↓Zbx, ↓Zby, ↓Zbz, ↓Zca, ↓Zcb, ↓Zcc, ↓Zcd, ↓Zce, ↓Zcf, ↓Zcg, ↓Zch, ↓Zci, ↓Zcj, ↓Zck, ↓Zcl, ↓Zcm, ↓Zcn, ↓Zco, ↓Zcp, ↓Zcq, ↓Zcr, ↓Zcs, ↓Zct, ↓Zcu, ↓Zcv, ↓Zcw, ↓Zcx, ↓Zcy, ↓Zcz, ↓Zda, ↓Zdb, ↓Zdc, ↓Zdd, ↓Zde, ↓Zdf, ↓Zdg, ↓Zdh, ↓Zdi, ↓Zdj, ↓Zdk, ↓Zdl, ↓Zdm, ↓Zdn, ↓Zdo, ↓Zdp, ↓Zdq, ↓Zdr, ↓Zds, ↓Zdt, ↓Zdu, ↓Zdv, ↓Zdw, ↓Zdx, ↓Zdy, ↓Zdz, ↓Zea, ↓Zeb, ↓Zec, ↓Zed, ↓Zee, ↓Zef, ↓Zeg, ↓Zeh, ↓Zei, ↓Zej, ↓Zek, ↓Zel, ↓Zem, ↓Zen, ↓Zeo, ↓Zep, ↓Zeq, ↓Zer, ↓Zes, ↓Zet, ↓Zeu, ↓Zev, ↓Zew, ↓Zex, ↓Zey, ↓Zez, ↓Zfa, ↓Zfb, ↓Zfc, ↓Zfd, ↓Zfe, ↓Zff, ↓Zfg, ↓Zfh, ↓Zfi, ↓Zfj, ↓Zfk, ↓Zfl, ↓Zfm, ↓Zfn, ↓Zfo, ↓Zfp, ↓Zfq, ↓Zfr, ↓Zfs, ↓Zft, ↓Zfu, ↓Zfv, ↓Zfw, ↓Zfx, ↓Zfy, ↓Zfz, ↓Zga, ↓Zgb, ↓Zgc, ↓Zgd, ↓Zge, ↓Zgf, ↓Zgg, ↓Zgh, ↓Zgi, ↓Zgj, ↓Zgk, ↓Zgl, ↓Zgm, ↓Zgn, ↓Zgo, ↓Zgp, ↓Zgq, ↓Zgr, ↓Zgs, ↓Zgt, ↓Zgu, ↓Zgv, ↓Zgw, ↓Zgx, ↓Zgy, ↓Zgz, ↓Zha, ↓Zhb, ↓Zhc, ↓Zhd, ↓Zhe, ↓Zhf, ↓Zhg, ↓Zhh, ↓Zhi, ↓Zhj, ↓Zhk, ↓Zhl, ↓Zhm, ↓Zhn, ↓Zho, ↓Zhp, ↓Zhq, ↓Zhr, ↓Zhs, ↓Zht, ↓Zhu, ↓Zhv, ↓Zhw, ↓Zhx, ↓Zhy, ↓Zhz, ↓Zia, ↓Zib, ↓Zic, ↓Zid, ↓Zie, ↓Zif, ↓Zig, ↓Zih, ↓Zii, ↓Zij, ↓Zik, ↓Zil, ↓Zim, ↓Zin, ↓Zio, ↓Ziq, ↓Zir, ↓Zis, ↓Zit, ↓Ziu, ↓Ziv, ↓Ziw, ↓Zix, ↓Ziy, ↓Ziz, ↓Zja, ↓Zjb, ↓Zjc, ↓Zjd, ↓Zje, ↓Zjf, ↓Zjg, ↓Zjh, ↓Zji, ↓Zjj, ↓Zjk, ↓Zjl, ↓Zjm, ↓Zjn, ↓Zjo, ↓Zjp, ↓Zjq, ↓Zjr, ↓Zjs, ↓Zjt, ↓Zju, ↓Zjv, ↓Zjw, ↓Zjx, ↓Zjy, ↓Zjz, ↓Zka, ↓Zkb, ↓Zkc, ↓Zkd, ↓Zke, ↓Zkf, ↓Zkg, ↓Zkh, ↓Zki, ↓Zkj, ↓Zkk, ↓Zkl, ↓Zkm, ↓Zkn, ↓Zko, ↓Zkp, ↓Zkq, ↓Zkr, ↓Zks, ↓Zkt, ↓Zku, ↓Zkv, ↓Zkw, ↓Zkx, ↓Zky, ↓Zkz, reduceIte, if_true, if_false, Bool.false_eq_true, Bool.and_true, Bool.true_and, Bool.and_false, Bool.false_and, Bool.or_true, Bool.true_or, Bool.or_false, Bool.false_or, Int.cast_ofNat_Int, Zla, Zlb, beq_self_eq_true, Int.reduceBEq, Int.reduceLT, Int.reduceLE, Int.reduceEq, Int.reduceNeg, Nat.reduceLT, Zlc, Zld, Zle, Zlf, Zlg, Zlh, Zli, Zlj, Zlk, Zll, Zlm, Zln, Zlo, Zlp, Zlq, Zlr, Zls, Zlt, Zlu, Zlv, Zlw, Zlx, Zly, Zlz, Zma, Zmb, Zmc, Zmd, Zme, Zmf, Zmg, Zmh, Zmi, Zmj, Zmk, Zml, Zmm, Zmn, Zmo, Zmp, Zmq, Zmr, Zms, Zmt, Zmu, Zmv, Zmw, Zmx, Zmy, Zmz, Zna, Znb, Znc, Znd, Zne, Znf, Zng, Znh, Zni, Znj, Znk, Znl, Znm, Znn, Zno, List.lookup_nil, Znp, Znq, Option.map_some, Option.map_none, Option.bind_some, Option.bind_none, List.map_nil, List.map_cons, List.nil_append, List.cons_append, List.append_nil, List.length_cons, List.length_nil, Nat.reduceAdd, Nat.reduceLeDiff, Nat.reduceEqDiff, Nat.reduceBEq, decide_true, decide_false, Bool.not_true, Bool.not_false, Znr, Zns, Znt, Znu, Znv, Znw, Znx, Zny, Znz, Zoa, Zob, Zoc, Zod, Zoe, List.getElem?_cons_zero, List.getElem?_cons_succ, Zof, Zog, Zoh, Zoi, Zoj, Zok, Zol, Zom, Zon, Zoo, Zop, Zoq, Zor, Zos, Zot, Zou, Zov, Zow, Zox, Zoy, setX, Zoz, Zpa, Zpb, Int.ofNat_lt, Int.ofNat_le, Zpc, Zpd, Zpe, Zpf, Zpg, Zph, p1, ixD_s l4, hc]
      refine ⟨rfl, w ++ [c], a0, a1, by simp, by simp [hl], fun z hz => ?_, h1, rfl⟩
      rcases List.mem_append.mp hz with h | h
      · exact hw z h
      · rw [List.mem_singleton.mp h]; exact hc2
    · cases hd
  · rintro acc e ⟨w, t0, t1, rfl, hl, hw, hst, rfl⟩
    rw [rng_vec, vec_len] at hl
    simp only [backE, List.getD_cons_succ, List.getD_cons_zero, List.set_cons_succ, List.set_cons_zero]
    have e : qJoin [] [.lst (w.map fun c => .str [c])] = some (.d (.str w)) := by
      have q := qJoin_s (l := []) (ys := w.map fun c => [c]) (by
        rw [List.map_map]
        have : ∀ w : List Nat, (w.map (List.length ∘ fun c => [c])).sum = w.length := fun w => by
          induction w with
          | nil => rfl
          | cons a w ih => rw [List.map_cons, List.sum_cons, ih]; simp; omega
        rw [this]
        simp
        omega)
      rw [List.map_map, join_sg] at q
      exact q
    simp -implicitDefEqProofs -dsimp only [↓Zaa, ↓Zab, ↓Zac, ↓Zad, ↓Zae, ↓Zaf, ↓Zag, ↓Zah, ↓Zai, ↓Zaj, ↓Zak, ↓Zal, ↓Zam, ↓Zan, ↓Zao, ↓Zap, ↓Zaq, ↓Zar, ↓Zas, ↓Zat, ↓Zau, ↓Zav, ↓Zaw, ↓Zax, ↓Zay, ↓Zaz, ↓Zba, ↓Zbb, ↓Zbc, ↓Zbd, ↓Zbe, ↓Zbf, ↓Zbg, ↓Zbh, ↓Zbi, ↓Zbj, ↓Zbk, ↓Zbl, ↓Zbm, ↓Zbn, ↓Zbo, ↓Zbp, ↓Zbq, ↓Zbr, ↓Zbs, ↓Zbt, ↓Zbu, ↓Zbv, ↓Zbw, ↓Zbx, ↓Zby, ↓Zbz, ↓Zca, ↓Zcb, ↓Zcc, ↓Zcd, ↓Zce, ↓Zcf, ↓Zcg, ↓Zch, ↓Zci, ↓Zcj, ↓Zck, ↓Zcl, ↓Zcm, ↓Zcn, ↓Zco, ↓Zcp, ↓Zcq, ↓Zcr, ↓Zcs, ↓Zct, ↓Zcu, ↓Zcv, ↓Zcw, ↓Zcx, ↓Zcy, ↓Zcz, ↓Zda, ↓Zdb, ↓Zdc, ↓Zdd, ↓Zde, ↓Zdf, ↓Zdg, ↓Zdh, ↓Zdi, ↓Zdj, ↓Zdk, ↓Zdl, ↓Zdm, ↓Zdn, ↓Zdo, ↓Zdp, ↓Zdq, ↓Zdr, ↓Zds, ↓Zdt, ↓Zdu, ↓Zdv, ↓Zdw, ↓Zdx, ↓Zdy, ↓Zdz, ↓Zea, ↓Zeb, ↓Zec, ↓Zed, ↓Zee, ↓Zef, ↓Zeg, ↓Zeh, ↓Zei, ↓Zej, ↓Zek, ↓Zel, ↓Zem, ↓Zen, ↓Zeo, ↓Zep, ↓Zeq, ↓Zer, ↓Zes, ↓Zet, ↓Zeu, ↓Zev, ↓Zew, ↓Zex, ↓Zey, ↓Zez, ↓Zfa, ↓Zfb, ↓Zfc, ↓Zfd, ↓Zfe, ↓Zff, ↓Zfg, ↓Zfh, ↓Zfi, ↓Zfj, ↓Zfk, ↓Zfl, ↓Zfm, ↓Zfn, ↓Zfo, ↓Zfp, ↓Zfq, ↓Zfr, ↓Zfs, ↓Zft, ↓Zfu, ↓Zfv, ↓Zfw, ↓Zfx, ↓Zfy, ↓Zfz, ↓Zga, ↓Zgb, ↓Zgc, ↓Zgd, ↓Zge, ↓Zgf, ↓Zgg, ↓Zgh, ↓Zgi, ↓Zgj, ↓Zgk, ↓Zgl, ↓Zgm, ↓Zgn, ↓Zgo, ↓Zgp, ↓Zgq, ↓Zgr, ↓Zgs, ↓Zgt, ↓Zgu, ↓Zgv, ↓Zgw, ↓Zgx, ↓Zgy, ↓Zgz, ↓Zha, ↓Zhb, ↓Zhc, ↓Zhd, ↓Zhe, ↓Zhf, ↓Zhg, ↓Zhh, ↓Zhi, ↓Zhj, ↓Zhk, ↓Zhl, ↓Zhm, ↓Zhn, ↓Zho, ↓Zhp, ↓Zhq, ↓Zhr, ↓Zhs, ↓Zht, ↓Zhu, ↓Zhv, ↓Zhw, ↓Zhx, ↓Zhy, ↓Zhz, ↓Zia, ↓Zib, ↓Zic, ↓Zid, ↓Zie, ↓Zif, ↓Zig, ↓Zih, ↓Zii, ↓Zij, ↓Zik, ↓Zil, ↓Zim, ↓Zin, ↓Zio, ↓Ziq, ↓Zir, ↓Zis, ↓Zit, ↓Ziu, ↓Ziv, ↓Ziw, ↓Zix, ↓Ziy, ↓Ziz, ↓Zja, ↓Zjb, ↓Zjc, ↓Zjd, ↓Zje, ↓Zjf, ↓Zjg, ↓Zjh, ↓Zji, ↓Zjj, ↓Zjk, ↓Zjl, ↓Zjm, ↓Zjn, ↓Zjo, ↓Zjp, ↓Zjq, ↓Zjr, ↓Zjs, ↓Zjt, ↓Zju, ↓Zjv, ↓Zjw, ↓Zjx, ↓Zjy, ↓Zjz, ↓Zka, ↓Zkb, ↓Zkc, ↓Zkd, ↓Zke, ↓Zkf, ↓Zkg, ↓Zkh, ↓Zki, ↓Zkj, ↓Zkk, ↓Zkl, ↓Zkm, ↓Zkn, ↓Zko, ↓Zkp, ↓Zkq, ↓Zkr, ↓Zks, ↓Zkt, ↓Zku, ↓Zkv, ↓Zkw, ↓Zkx, ↓Zky, ↓Zkz, reduceIte, if_true, if_false, Bool.false_eq_true, Bool.and_true, Bool.true_and, Bool.and_false, Bool.false_and, Bool.or_true, Bool.true_or, Bool.or_false, Bool.false_or, Int.cast_ofNat_Int, Zla, Zlb, beq_self_eq_true, Int.reduceBEq, Int.reduceLT, Int.reduceLE, Int.reduceEq, Int.reduceNeg, Nat.reduceLT, Zlc, Zld, Zle, Zlf, Zlg, Zlh, Zli, Zlj, Zlk, Zll, Zlm, Zln, Zlo, Zlp, Zlq, Zlr, Zls, Zlt, Zlu, Zlv, Zlw, Zlx, Zly, Zlz, Zma, Zmb, Zmc, Zmd, Zme, Zmf, Zmg, Zmh, Zmi, Zmj, Zmk, Zml, Zmm, Zmn, Zmo, Zmp, Zmq, Zmr, Zms, Zmt, Zmu, Zmv, Zmw, Zmx, Zmy, Zmz, Zna, Znb, Znc, Znd, Zne, Znf, Zng, Znh, Zni, Znj, Znk, Znl, Znm, Znn, Zno, List.lookup_nil, Znp, Znq, Option.map_some, Option.map_none, Option.bind_some, Option.bind_none, List.map_nil, List.map_cons, List.nil_append, List.cons_append, List.append_nil, List.length_cons, List.length_nil, Nat.reduceAdd, Nat.reduceLeDiff, Nat.reduceEqDiff, Nat.reduceBEq, decide_true, decide_false, Bool.not_true, Bool.not_false, Znr, Zns, Znt, Znu, Znv, Znw, Znx, Zny, Znz, Zoa, Zob, Zoc, Zod, Zoe, List.getElem?_cons_zero, List.getElem?_cons_succ, Zof, Zog, Zoh, Zoi, Zoj, Zok, Zol, Zom, Zon, Zoo, Zop, Zoq, Zor, Zos, Zot, Zou, Zov, Zow, Zox, Zoy, setX, Zoz, Zpa, Zpb, Int.ofNat_lt, Int.ofNat_le, Zpc, Zpd, Zpe, Zpf, Zpg, Zph, e]
    exact ⟨w, t0, t1, rfl, hl, hw, hst⟩
abbrev malf : List Nat := [109, 97, 108, 102, 111, 114, 109, 101, 100]
theorem c_odd {d : D} (h : List.lookup (kd d) [(0, false), (1, false), (2, false), (3, true), (4, false), (5, false)] = some false) : φ_check_word [.val d] = .ex ⟨1, []⟩ [] := by
  have q : φ_is_word [.val d] = .ok (.d (.bl false)) [] := by
    apply run_is_word
    unfold g_is_word
    simp -implicitDefEqProofs -dsimp only [↓Zaa, ↓Zab, ↓Zac, ↓Zad, ↓Zae, ↓Zaf, ↓Zag, ↓Zah, ↓Zai, ↓Zaj, ↓Zak, ↓Zal, ↓Zam, ↓Zan, ↓Zao, ↓Zap, ↓Zaq, ↓Zar, ↓Zas, ↓Zat, ↓Zau, ↓Zav, ↓Zaw, ↓Zax, ↓Zay, ↓Zaz, ↓Zba, ↓Zbb, ↓Zbc, ↓Zbd, ↓Zbe, ↓Zbf, ↓Zbg, ↓Zbh, ↓Zbi, ↓Zbj, ↓Zbk, ↓Zbl, ↓Zbm, ↓Zbn, ↓Zbo, ↓Zbp, ↓Zbq, ↓Zbr, ↓Zbs, ↓Zbt, ↓Zbu, ↓Zbv, ↓Zbw, ↓Zbx, ↓Zby, ↓Zbz, ↓Zca, ↓Zcb, ↓Zcc, ↓Zcd, ↓Zce, ↓Zcf, ↓Zcg, ↓Zch, ↓Zci, ↓Zcj, ↓Zck, ↓Zcl, ↓Zcm, ↓Zcn, ↓Zco, ↓Zcp, ↓Zcq, ↓Zcr, ↓Zcs, ↓Zct, ↓Zcu, ↓Zcv, ↓Zcw, ↓Zcx, ↓Zcy, ↓Zcz, ↓Zda, ↓Zdb, ↓Zdc, ↓Zdd, ↓Zde, ↓Zdf, ↓Zdg, ↓Zdh, ↓Zdi, ↓Zdj, ↓Zdk, ↓Zdl, ↓Zdm, ↓Zdn, ↓Zdo, ↓Zdp, ↓Zdq, ↓Zdr, ↓Zds, ↓Zdt, ↓Zdu, ↓Zdv, ↓Zdw, ↓Zdx, ↓Zdy, ↓Zdz, ↓Zea, ↓Zeb, ↓Zec, ↓Zed, ↓Zee, ↓Zef, ↓Zeg, ↓Zeh, ↓Zei, ↓Zej, ↓Zek, ↓Zel, ↓Zem, ↓Zen, ↓Zeo, ↓Zep, ↓Zeq, ↓Zer, ↓Zes, ↓Zet, ↓Zeu, ↓Zev, ↓Zew, ↓Zex, ↓Zey, ↓Zez, ↓Zfa, ↓Zfb, ↓Zfc, ↓Zfd, ↓Zfe, ↓Zff, ↓Zfg, ↓Zfh, ↓Zfi, ↓Zfj, ↓Zfk, ↓Zfl, ↓Zfm, ↓Zfn, ↓Zfo, ↓Zfp, ↓Zfq, ↓Zfr, ↓Zfs, ↓Zft, ↓Zfu, ↓Zfv, ↓Zfw, ↓Zfx, ↓Zfy, ↓Zfz, ↓Zga, ↓Zgb, ↓Zgc, ↓Zgd, ↓Zge, ↓Zgf, ↓Zgg, ↓Zgh, ↓Zgi, ↓Zgj, ↓Zgk, ↓Zgl, ↓Zgm, ↓Zgn, ↓Zgo, ↓Zgp, ↓Zgq, ↓Zgr, ↓Zgs, ↓Zgt, ↓Zgu, ↓Zgv, ↓Zgw, ↓Zgx, ↓Zgy, ↓Zgz, ↓Zha, ↓Zhb, ↓Zhc, ↓Zhd, ↓Zhe, ↓Zhf, ↓Zhg, ↓Zhh, ↓Zhi, ↓Zhj, ↓Zhk, ↓Zhl, ↓Zhm, ↓Zhn, ↓Zho, ↓Zhp, ↓Zhq, ↓Zhr, ↓Zhs, ↓Zht, ↓Zhu, ↓Zhv, ↓Zhw, ↓Zhx, ↓Zhy, ↓Zhz, ↓Zia, ↓Zib, ↓Zic, ↓Zid, ↓Zie, ↓Zif, ↓Zig, ↓Zih, ↓Zii, ↓Zij, ↓Zik, ↓Zil, ↓Zim, ↓Zin, ↓Zio, ↓Ziq, ↓Zir, ↓Zis, ↓Zit, ↓Ziu, ↓Ziv, ↓Ziw, ↓Zix, ↓Ziy, ↓Ziz, ↓Zja, ↓Zjb, ↓Zjc, ↓Zjd, ↓Zje, ↓Zjf, ↓Zjg, ↓Zjh, ↓Zji, ↓Zjj, ↓Zjk, ↓Zjl, ↓Zjm, ↓Zjn, ↓Zjo, ↓Zjp, ↓Zjq, ↓Zjr, ↓Zjs, ↓Zjt, ↓Zju, ↓Zjv, ↓Zjw, ↓Zjx, ↓Zjy, ↓Zjz, ↓Zka, ↓Zkb, ↓Zkc, ↓Zkd, ↓Zke, ↓Zkf, ↓Zkg, ↓Zkh, ↓Zki, ↓Zkj, ↓Zkk, ↓Zkl, ↓Zkm, ↓Zkn, ↓Zko, ↓Zkp, ↓Zkq, ↓Zkr, ↓Zks, ↓Zkt, ↓Zku, ↓Zkv, ↓Zkw, ↓Zkx, ↓Zky, ↓Zkz, reduceIte, if_true, if_false, Bool.false_eq_true, Bool.and_true, Bool.true_and, Bool.and_false, Bool.false_and, Bool.or_true, Bool.true_or, Bool.or_false, Bool.false_or, Int.cast_ofNat_Int, Zla, Zlb, beq_self_eq_true, Int.reduceBEq, Int.reduceLT, Int.reduceLE, Int.reduceEq, Int.reduceNeg, Nat.reduceLT, Zlc, Zld, Zle, Zlf, Zlg, Zlh, Zli, Zlj, Zlk, Zll, Zlm, Zln, Zlo, Zlp, Zlq, Zlr, Zls, Zlt, Zlu, Zlv, Zlw, Zlx, Zly, Zlz, Zma, Zmb, Zmc, Zmd, Zme, Zmf, Zmg, Zmh, Zmi, Zmj, Zmk, Zml, Zmm, Zmn, Zmo, Zmp, Zmq, Zmr, Zms, Zmt, Zmu, Zmv, Zmw, Zmx, Zmy, Zmz, Zna, Znb, Znc, Znd, Zne, Znf, Zng, Znh, Zni, Znj, Znk, Znl, Znm, Znn, Zno, List.lookup_nil, Znp, Znq, Option.map_some, Option.map_none, Option.bind_some, Option.bind_none, List.map_nil, List.map_cons, List.nil_append, List.cons_append, List.append_nil, List.length_cons, List.length_nil, Nat.reduceAdd, Nat.reduceLeDiff, Nat.reduceEqDiff, Nat.reduceBEq, decide_true, decide_false, Bool.not_true, Bool.not_false, Znr, Zns, Znt, Znu, Znv, Znw, Znx, Zny, Znz, Zoa, Zob, Zoc, Zod, Zoe, List.getElem?_cons_zero, List.getElem?_cons_succ, Zof, Zog, Zoh, Zoi, Zoj, Zok, Zol, Zom, Zon, Zoo, Zop, Zoq, Zor, Zos, Zot, Zou, Zov, Zow, Zox, Zoy, setX, Zoz, Zpa, Zpb, Int.ofNat_lt, Int.ofNat_le, Zpc, Zpd, Zpe, Zpf, Zpg, Zph, h]
  apply run_check_word
  unfold g_check_word
  simp -implicitDefEqProofs -dsimp only [↓Zaa, ↓Zab, ↓Zac, ↓Zad, ↓Zae, ↓Zaf, ↓Zag, ↓Zah, ↓Zai, ↓Zaj, ↓Zak, ↓Zal, ↓Zam, ↓Zan, ↓Zao, ↓Zap, ↓Zaq, ↓Zar, ↓Zas, ↓Zat, ↓Zau, ↓Zav, ↓Zaw, ↓Zax, ↓Zay, ↓Zaz, ↓Zba, ↓Zbb, ↓Zbc, ↓Zbd, ↓Zbe, ↓Zbf, ↓Zbg, ↓Zbh, ↓Zbi, ↓Zbj, ↓Zbk, ↓Zbl, ↓Zbm, ↓Zbn, ↓Zbo, ↓Zbp, ↓Zbq, ↓Zbr, ↓Zbs, ↓Zbt, ↓Zbu, ↓Zbv, ↓Zbw, ↓Zbx, ↓Zby, ↓Zbz, ↓Zca, ↓Zcb, ↓Zcc, ↓Zcd, ↓Zce, ↓Zcf, ↓Zcg, ↓Zch, ↓Zci, ↓Zcj, ↓Zck, ↓Zcl, ↓Zcm, ↓Zcn, ↓Zco, ↓Zcp, ↓Zcq, ↓Zcr, ↓Zcs, ↓Zct, ↓Zcu, ↓Zcv, ↓Zcw, ↓Zcx, ↓Zcy, ↓Zcz, ↓Zda, ↓Zdb, ↓Zdc, ↓Zdd, ↓Zde, ↓Zdf, ↓Zdg, ↓Zdh, ↓Zdi, ↓Zdj, ↓Zdk, ↓Zdl, ↓Zdm, ↓Zdn, ↓Zdo, ↓Zdp, ↓Zdq, ↓Zdr, ↓Zds, ↓Zdt, ↓Zdu, ↓Zdv, ↓Zdw, ↓Zdx, ↓Zdy, ↓Zdz, ↓Zea, ↓Zeb, ↓Zec, ↓Zed, ↓Zee, ↓Zef, ↓Zeg, ↓Zeh, ↓Zei, ↓Zej, ↓Zek, ↓Zel, ↓Zem, ↓Zen, ↓Zeo, ↓Zep, ↓Zeq, ↓Zer, ↓Zes, ↓Zet, ↓Zeu, ↓Zev, ↓Zew, ↓Zex, ↓Zey, ↓Zez, ↓Zfa, ↓Zfb, ↓Zfc, ↓Zfd, ↓Zfe, ↓Zff, ↓Zfg, ↓Zfh, ↓Zfi, ↓Zfj, ↓Zfk, ↓Zfl, ↓Zfm, ↓Zfn, ↓Zfo, ↓Zfp, ↓Zfq, ↓Zfr, ↓Zfs, ↓Zft, ↓Zfu, ↓Zfv, ↓Zfw, ↓Zfx, ↓Zfy, ↓Zfz, ↓Zga, ↓Zgb, ↓Zgc, ↓Zgd, ↓Zge, ↓Zgf, ↓Zgg, ↓Zgh, ↓Zgi, ↓Zgj, ↓Zgk, ↓Zgl, ↓Zgm, ↓Zgn, ↓Zgo, ↓Zgp, ↓Zgq, ↓Zgr, ↓Zgs, ↓Zgt, ↓Zgu, ↓Zgv, ↓Zgw, ↓Zgx, ↓Zgy, ↓Zgz, ↓Zha, ↓Zhb, ↓Zhc, ↓Zhd, ↓Zhe, ↓Zhf, ↓Zhg, ↓Zhh, ↓Zhi, ↓Zhj, ↓Zhk, ↓Zhl, ↓Zhm, ↓Zhn, ↓Zho, ↓Zhp, ↓Zhq, ↓Zhr, ↓Zhs, ↓Zht, ↓Zhu, ↓Zhv, ↓Zhw, ↓Zhx, ↓Zhy, ↓Zhz, ↓Zia, ↓Zib, ↓Zic, ↓Zid, ↓Zie, ↓Zif, ↓Zig, ↓Zih, ↓Zii, ↓Zij, ↓Zik, ↓Zil, ↓Zim, ↓Zin, ↓Zio, ↓Ziq, ↓Zir, ↓Zis, ↓Zit, ↓Ziu, ↓Ziv, ↓Ziw, ↓Zix, ↓Ziy, ↓Ziz, ↓Zja, ↓Zjb, ↓Zjc, ↓Zjd, ↓Zje, ↓Zjf, ↓Zjg, ↓Zjh, ↓Zji, ↓Zjj, ↓Zjk, ↓Zjl, ↓Zjm, ↓Zjn, ↓Zjo, ↓Zjp, ↓Zjq, ↓Zjr, ↓Zjs, ↓Zjt, ↓Zju, ↓Zjv, ↓Zjw, ↓Zjx, ↓Zjy, ↓Zjz, ↓Zka, ↓Zkb, ↓Zkc, ↓Zkd, ↓Zke, ↓Zkf, ↓Zkg, ↓Zkh, ↓Zki, ↓Zkj, ↓Zkk, ↓Zkl, ↓Zkm, ↓Zkn, ↓Zko, ↓Zkp, ↓Zkq, ↓Zkr, ↓Zks, ↓Zkt, ↓Zku, ↓Zkv, ↓Zkw, ↓Zkx, ↓Zky, ↓Zkz, reduceIte, if_true, if_false, Bool.false_eq_true, Bool.and_true, Bool.true_and, Bool.and_false, Bool.false_and, Bool.or_true, Bool.true_or, Bool.or_false, Bool.false_or, Int.cast_ofNat_Int, Zla, Zlb, beq_self_eq_true, Int.reduceBEq, Int.reduceLT, Int.reduceLE, Int.reduceEq, Int.reduceNeg, Nat.reduceLT, Zlc, Zld, Zle, Zlf, Zlg, Zlh, Zli, Zlj, Zlk, Zll, Zlm, Zln, Zlo, Zlp, Zlq, Zlr, Zls, Zlt, Zlu, Zlv, Zlw, Zlx, Zly, Zlz, Zma, Zmb, Zmc, Zmd, Zme, Zmf, Zmg, Zmh, Zmi, Zmj, Zmk, Zml, Zmm, Zmn, Zmo, Zmp, Zmq, Zmr, Zms, Zmt, Zmu, Zmv, Zmw, Zmx, Zmy, Zmz, Zna, Znb, Znc, Znd, Zne, Znf, Zng, Znh, Zni, Znj, Znk, Znl, Znm, Znn, Zno, List.lookup_nil, Znp, Znq, Option.map_some, Option.map_none, Option.bind_some, Option.bind_none, List.map_nil, List.map_cons, List.nil_append, List.cons_append, List.append_nil, List.length_cons, List.length_nil, Nat.reduceAdd, Nat.reduceLeDiff, Nat.reduceEqDiff, Nat.reduceBEq, decide_true, decide_false, Bool.not_true, Bool.not_false, Znr, Zns, Znt, Znu, Znv, Znw, Znx, Zny, Znz, Zoa, Zob, Zoc, Zod, Zoe, List.getElem?_cons_zero, List.getElem?_cons_succ, Zof, Zog, Zoh, Zoi, Zoj, Zok, Zol, Zom, Zon, Zoo, Zop, Zoq, Zor, Zos, Zot, Zou, Zov, Zow, Zox, Zoy, setX, Zoz, Zpa, Zpb, Int.ofNat_lt, Int.ofNat_le, Zpc, Zpd, Zpe, Zpf, Zpg, Zph, q]
theorem c_bad {w : List Nat} (hl : w.length ≤ 1000) (h : w.all (fun c => decide (97 ≤ c) && decide (c ≤ 122)) = false) : φ_check_word [.val (.str w)] = .ex ⟨1, []⟩ [] := by
  have q : φ_is_word [.val (.str w)] = .ok (.d (.bl false)) [] := by
    apply run_is_word
    unfold g_is_word
    simp -implicitDefEqProofs -dsimp only [↓Zaa, ↓Zab, ↓Zac, ↓Zad, ↓Zae, ↓Zaf, ↓Zag, ↓Zah, ↓Zai, ↓Zaj, ↓Zak, ↓Zal, ↓Zam, ↓Zan, ↓Zao, ↓Zap, ↓Zaq, ↓Zar, ↓Zas, ↓Zat, ↓Zau, ↓Zav, ↓Zaw, ↓Zax, ↓Zay, ↓Zaz, ↓Zba, ↓Zbb, ↓Zbc, ↓Zbd, ↓Zbe, ↓Zbf, ↓Zbg, ↓Zbh, ↓Zbi, ↓Zbj, ↓Zbk, ↓Zbl, ↓Zbm, ↓Zbn, ↓Zbo, ↓Zbp, ↓Zbq, ↓Zbr, ↓Zbs, ↓Zbt, ↓Zbu, ↓Zbv, ↓Zbw, ↓Zbx, ↓Zby, ↓Zbz, ↓Zca, ↓Zcb, ↓Zcc, ↓Zcd, ↓Zce, ↓Zcf, ↓Zcg, ↓Zch, ↓Zci, ↓Zcj, ↓Zck, ↓Zcl, ↓Zcm, ↓Zcn, ↓Zco, ↓Zcp, ↓Zcq, ↓Zcr, ↓Zcs, ↓Zct, ↓Zcu, ↓Zcv, ↓Zcw, ↓Zcx, ↓Zcy, ↓Zcz, ↓Zda, ↓Zdb, ↓Zdc, ↓Zdd, ↓Zde, ↓Zdf, ↓Zdg, ↓Zdh, ↓Zdi, ↓Zdj, ↓Zdk, ↓Zdl, ↓Zdm, ↓Zdn, ↓Zdo, ↓Zdp, ↓Zdq, ↓Zdr, ↓Zds, ↓Zdt, ↓Zdu, ↓Zdv, ↓Zdw, ↓Zdx, ↓Zdy, ↓Zdz, ↓Zea, ↓Zeb, ↓Zec, ↓Zed, ↓Zee, ↓Zef, ↓Zeg, ↓Zeh, ↓Zei, ↓Zej, ↓Zek, ↓Zel, ↓Zem, ↓Zen, ↓Zeo, ↓Zep, ↓Zeq, ↓Zer, ↓Zes, ↓Zet, ↓Zeu, ↓Zev, ↓Zew, ↓Zex, ↓Zey, ↓Zez, ↓Zfa, ↓Zfb, ↓Zfc, ↓Zfd, ↓Zfe, ↓Zff, ↓Zfg, ↓Zfh, ↓Zfi, ↓Zfj, ↓Zfk, ↓Zfl, ↓Zfm, ↓Zfn, ↓Zfo, ↓Zfp, ↓Zfq, ↓Zfr, ↓Zfs, ↓Zft, ↓Zfu, ↓Zfv, ↓Zfw, ↓Zfx, ↓Zfy, ↓Zfz, ↓Zga, ↓Zgb, ↓Zgc, ↓Zgd, ↓Zge, ↓Zgf, ↓Zgg, ↓Zgh, ↓Zgi, ↓Zgj, ↓Zgk, ↓Zgl, ↓Zgm, ↓Zgn, ↓Zgo, ↓Zgp, ↓Zgq, ↓Zgr, ↓Zgs, ↓Zgt, ↓Zgu, ↓Zgv, ↓Zgw, ↓Zgx, ↓Zgy, ↓Zgz, ↓Zha, ↓Zhb, ↓Zhc, ↓Zhd, ↓Zhe, ↓Zhf, ↓Zhg, ↓Zhh, ↓Zhi, ↓Zhj, ↓Zhk, ↓Zhl, ↓Zhm, ↓Zhn, ↓Zho, ↓Zhp, ↓Zhq, ↓Zhr, ↓Zhs, ↓Zht, ↓Zhu, ↓Zhv, ↓Zhw, ↓Zhx, ↓Zhy, ↓Zhz, ↓Zia, ↓Zib, ↓Zic, ↓Zid, ↓Zie, ↓Zif, ↓Zig, ↓Zih, ↓Zii, ↓Zij, ↓Zik, ↓Zil, ↓Zim, ↓Zin, ↓Zio, ↓Ziq, ↓Zir, ↓Zis, ↓Zit, ↓Ziu, ↓Ziv, ↓Ziw, ↓Zix, ↓Ziy, ↓Ziz, ↓Zja, ↓Zjb, ↓Zjc, ↓Zjd, ↓Zje, ↓Zjf, ↓Zjg, ↓Zjh, ↓Zji, ↓Zjj, ↓Zjk, ↓Zjl, ↓Zjm, ↓Zjn, ↓Zjo, ↓Zjp, ↓Zjq, ↓Zjr, ↓Zjs, ↓Zjt, ↓Zju, ↓Zjv, ↓Zjw, ↓Zjx, ↓Zjy, ↓Zjz, ↓Zka, ↓Zkb, ↓Zkc, ↓Zkd, ↓Zke, ↓Zkf, ↓Zkg, ↓Zkh, ↓Zki, ↓Zkj, ↓Zkk, ↓Zkl, ↓Zkm, ↓Zkn, ↓Zko, ↓Zkp, ↓Zkq, ↓Zkr, ↓Zks, ↓Zkt, ↓Zku, ↓Zkv, ↓Zkw, ↓Zkx, ↓Zky, ↓Zkz, reduceIte, if_true, if_false, Bool.false_eq_true, Bool.and_true, Bool.true_and, Bool.and_false, Bool.false_and, Bool.or_true, Bool.true_or, Bool.or_false, Bool.false_or, Int.cast_ofNat_Int, Zla, Zlb, beq_self_eq_true, Int.reduceBEq, Int.reduceLT, Int.reduceLE, Int.reduceEq, Int.reduceNeg, Nat.reduceLT, Zlc, Zld, Zle, Zlf, Zlg, Zlh, Zli, Zlj, Zlk, Zll, Zlm, Zln, Zlo, Zlp, Zlq, Zlr, Zls, Zlt, Zlu, Zlv, Zlw, Zlx, Zly, Zlz, Zma, Zmb, Zmc, Zmd, Zme, Zmf, Zmg, Zmh, Zmi, Zmj, Zmk, Zml, Zmm, Zmn, Zmo, Zmp, Zmq, Zmr, Zms, Zmt, Zmu, Zmv, Zmw, Zmx, Zmy, Zmz, Zna, Znb, Znc, Znd, Zne, Znf, Zng, Znh, Zni, Znj, Znk, Znl, Znm, Znn, Zno, List.lookup_nil, Znp, Znq, Option.map_some, Option.map_none, Option.bind_some, Option.bind_none, List.map_nil, List.map_cons, List.nil_append, List.cons_append, List.append_nil, List.length_cons, List.length_nil, Nat.reduceAdd, Nat.reduceLeDiff, Nat.reduceEqDiff, Nat.reduceBEq, decide_true, decide_false, Bool.not_true, Bool.not_false, Znr, Zns, Znt, Znu, Znv, Znw, Znx, Zny, Znz, Zoa, Zob, Zoc, Zod, Zoe, List.getElem?_cons_zero, List.getElem?_cons_succ, Zof, Zog, Zoh, Zoi, Zoj, Zok, Zol, Zom, Zon, Zoo, Zop, Zoq, Zor, Zos, Zot, Zou, Zov, Zow, Zox, Zoy, setX, Zoz, Zpa, Zpb, Int.ofNat_lt, Int.ofNat_le, Zpc, Zpd, Zpe, Zpf, Zpg, Zph]
    refine lc_map (l := w) (g := fun c => .str [c]) (fun c => .bl (decide (97 ≤ c) && decide (c ≤ 122))) rfl (by omega) (fun c hc => ?_) ?_
    · simp only [wipeE, List.set_cons_zero, List.set_cons_succ]
      by_cases h1 : 97 ≤ c
      · have e1 : (!decide ([c] < [97])) = true := by
          have : ¬ ([c] < [97]) := by rw [List.cons_lt_cons_iff]; simp; omega
          simp [this]
        by_cases h2 : c ≤ 122
        · have e2 : (!decide ([122] < [c])) = true := by
            have : ¬ ([122] < [c]) := by rw [List.cons_lt_cons_iff]; simp; omega
            simp [this]
          simp -implicitDefEqProofs -dsimp only [↓Zaa, ↓Zab, ↓Zac, ↓Zad, ↓Zae, ↓Zaf, ↓Zag, ↓Zah, ↓Zai, ↓Zaj, ↓Zak, ↓Zal, ↓Zam, ↓Zan, ↓Zao, ↓Zap, ↓Zaq, ↓Zar, ↓Zas, ↓Zat, ↓Zau, ↓Zav, ↓Zaw, ↓Zax, ↓Zay, ↓Zaz, ↓Zba, ↓Zbb, ↓Zbc, ↓Zbd, ↓Zbe, ↓Zbf, ↓Zbg, ↓Zbh, ↓Zbi, ↓Zbj, ↓Zbk, ↓Zbl, ↓Zbm, ↓Zbn, ↓Zbo, ↓Zbp, ↓Zbq, ↓Zbr, ↓Zbs, ↓Zbt, ↓Zbu, ↓Zbv, ↓Zbw, ↓Zbx, ↓Zby, ↓Zbz, ↓Zca, ↓Zcb, ↓Zcc, ↓Zcd, ↓Zce, ↓Zcf, ↓Zcg, ↓Zch, ↓Zci, ↓Zcj, ↓Zck, ↓Zcl, ↓Zcm, ↓Zcn, ↓Zco, ↓Zcp, ↓Zcq, ↓Zcr, ↓Zcs, ↓Zct, ↓Zcu, ↓Zcv, ↓Zcw, ↓Zcx, ↓Zcy, ↓Zcz, ↓Zda, ↓Zdb, ↓Zdc, ↓Zdd, ↓Zde, ↓Zdf, ↓Zdg, ↓Zdh, ↓Zdi, ↓Zdj, ↓Zdk, ↓Zdl, ↓Zdm, ↓Zdn, ↓Zdo, ↓Zdp, ↓Zdq, ↓Zdr, ↓Zds, ↓Zdt, ↓Zdu, ↓Zdv, ↓Zdw, ↓Zdx, ↓Zdy, ↓Zdz, ↓Zea, ↓Zeb, ↓Zec, ↓Zed, ↓Zee, ↓Zef, ↓Zeg, ↓Zeh, ↓Zei, ↓Zej, ↓Zek, ↓Zel, ↓Zem, ↓Zen, ↓Zeo, ↓Zep, ↓Zeq, ↓Zer, ↓Zes, ↓Zet, ↓Zeu, ↓Zev, ↓Zew, ↓Zex, ↓Zey, ↓Zez, ↓Zfa, ↓Zfb, ↓Zfc, ↓Zfd, ↓Zfe, ↓Zff, ↓Zfg, ↓Zfh, ↓Zfi, ↓Zfj, ↓Zfk, ↓Zfl, ↓Zfm, ↓Zfn, ↓Zfo, ↓Zfp, ↓Zfq, ↓Zfr, ↓Zfs, ↓Zft, ↓Zfu, ↓Zfv, ↓Zfw, ↓Zfx, ↓Zfy, ↓Zfz, ↓Zga, ↓Zgb, ↓Zgc, ↓Zgd, ↓Zge, ↓Zgf, ↓Zgg, ↓Zgh, ↓Zgi, ↓Zgj, ↓Zgk, ↓Zgl, ↓Zgm, ↓Zgn, ↓Zgo, ↓Zgp, ↓Zgq, ↓Zgr, ↓Zgs, ↓Zgt, ↓Zgu, ↓Zgv, ↓Zgw, ↓Zgx, ↓Zgy, ↓Zgz, ↓Zha, ↓Zhb, ↓Zhc, ↓Zhd, ↓Zhe, ↓Zhf, ↓Zhg, ↓Zhh, ↓Zhi, ↓Zhj, ↓Zhk, ↓Zhl, ↓Zhm, ↓Zhn, ↓Zho, ↓Zhp, ↓Zhq, ↓Zhr, ↓Zhs, ↓Zht, ↓Zhu, ↓Zhv, ↓Zhw, ↓Zhx, ↓Zhy, ↓Zhz, ↓Zia, ↓Zib, ↓Zic, ↓Zid, ↓Zie, ↓Zif, ↓Zig, ↓Zih, ↓Zii, ↓Zij, ↓Zik, ↓Zil, ↓Zim, ↓Zin, ↓Zio, ↓Ziq, ↓Zir, ↓Zis, ↓Zit, ↓Ziu, ↓Ziv, ↓Ziw, ↓Zix, ↓Ziy, ↓Ziz, ↓Zja, ↓Zjb, ↓Zjc, ↓Zjd, ↓Zje, ↓Zjf, ↓Zjg, ↓Zjh, ↓Zji, ↓Zjj, ↓Zjk, ↓Zjl, ↓Zjm, ↓Zjn, ↓Zjo, ↓Zjp, ↓Zjq, ↓Zjr, ↓Zjs, ↓Zjt, ↓Zju, ↓Zjv, ↓Zjw, ↓Zjx, ↓Zjy, ↓Zjz, ↓Zka, ↓Zkb, ↓Zkc, ↓Zkd, ↓Zke, ↓Zkf, ↓Zkg, ↓Zkh, ↓Zki, ↓Zkj, ↓Zkk, ↓Zkl, ↓Zkm, ↓Zkn, ↓Zko, ↓Zkp, ↓Zkq, ↓Zkr, ↓Zks, ↓Zkt, ↓Zku, ↓Zkv, ↓Zkw, ↓Zkx, ↓Zky, ↓Zkz, reduceIte, if_true, if_false, Bool.false_eq_true, Bool.and_true, Bool.true_and, Bool.and_false, Bool.false_and, Bool.or_true, Bool.true_or, Bool.or_false, Bool.false_or, Int.cast_ofNat_Int, Zla, Zlb, beq_self_eq_true, Int.reduceBEq, Int.reduceLT, Int.reduceLE, Int.reduceEq, Int.reduceNeg, Nat.reduceLT, Zlc, Zld, Zle, Zlf, Zlg, Zlh, Zli, Zlj, Zlk, Zll, Zlm, Zln, Zlo, Zlp, Zlq, Zlr, Zls, Zlt, Zlu, Zlv, Zlw, Zlx, Zly, Zlz, Zma, Zmb, Zmc, Zmd, Zme, Zmf, Zmg, Zmh, Zmi, Zmj, Zmk, Zml, Zmm, Zmn, Zmo, Zmp, Zmq, Zmr, Zms, Zmt, Zmu, Zmv, Zmw, Zmx, Zmy, Zmz, Zna, Znb, Znc, Znd, Zne, Znf, Zng, Znh, Zni, Znj, Znk, Znl, Znm, Znn, Zno, List.lookup_nil, Znp, Znq, Option.map_some, Option.map_none, Option.bind_some, Option.bind_none, List.map_nil, List.map_cons, List.nil_append, List.cons_append, List.append_nil, List.length_cons, List.length_nil, Nat.reduceAdd, Nat.reduceLeDiff, Nat.reduceEqDiff, Nat.reduceBEq, decide_true, decide_false, Bool.not_true, Bool.not_false, Znr, Zns, Znt, Znu, Znv, Znw, Znx, Zny, Znz, Zoa, Zob, Zoc, Zod, Zoe, List.getElem?_cons_zero, List.getElem?_cons_succ, Zof, Zog, Zoh, Zoi, Zoj, Zok, Zol, Zom, Zon, Zoo, Zop, Zoq, Zor, Zos, Zot, Zou, Zov, Zow, Zox, Zoy, setX, Zoz, Zpa, Zpb, Int.ofNat_lt, Int.ofNat_le, Zpc, Zpd, Zpe, Zpf, Zpg, Zph, le_ch, e1, e2]
          refine ⟨rfl, rfl, ?_⟩
          simp [h1, h2]
        · have e2 : (!decide ([122] < [c])) = false := by
            have : [122] < [c] := by rw [List.cons_lt_cons_iff]; simp; omega
            simp [this]
          simp -implicitDefEqProofs -dsimp only [↓Zaa, ↓Zab, ↓Zac, ↓Zad, ↓Zae, ↓Zaf, ↓Zag, ↓Zah, ↓Zai, ↓Zaj, ↓Zak, ↓Zal, ↓Zam, ↓Zan, ↓Zao, ↓Zap, ↓Zaq, ↓Zar, ↓Zas, ↓Zat, ↓Zau, ↓Zav, ↓Zaw, ↓Zax, ↓Zay, ↓Zaz, ↓Zba, ↓Zbb, ↓Zbc, ↓Zbd, ↓Zbe, ↓Zbf, ↓Zbg, ↓Zbh, ↓Zbi, ↓Zbj, ↓Zbk, ↓Zbl, ↓Zbm, ↓Zbn, ↓Zbo, ↓Zbp, ↓Zbq, ↓Zbr, ↓Zbs, ↓Zbt, ↓Zbu, ↓Zbv, ↓Zbw, ↓Zbx, ↓Zby, ↓Zbz, ↓Zca, ↓Zcb, ↓Zcc, ↓Zcd, ↓Zce, ↓Zcf, ↓Zcg, ↓Zch, ↓Zci, ↓Zcj, ↓Zck, ↓Zcl, ↓Zcm, ↓Zcn, ↓Zco, ↓Zcp, ↓Zcq, ↓Zcr, ↓Zcs, ↓Zct, ↓Zcu, ↓Zcv, ↓Zcw, ↓Zcx, ↓Zcy, ↓Zcz, ↓Zda, ↓Zdb, ↓Zdc, ↓Zdd, ↓Zde, ↓Zdf, ↓Zdg, ↓Zdh, ↓Zdi, ↓Zdj, ↓Zdk, ↓Zdl, ↓Zdm, ↓Zdn, ↓Zdo, ↓Zdp, ↓Zdq, ↓Zdr, ↓Zds, ↓Zdt, ↓Zdu, ↓Zdv, ↓Zdw, ↓Zdx, ↓Zdy, ↓Zdz, ↓Zea, ↓Zeb, ↓Zec, ↓Zed, ↓Zee, ↓Zef, ↓Zeg, ↓Zeh, ↓Zei, ↓Zej, ↓Zek, ↓Zel, ↓Zem, ↓Zen, ↓Zeo, ↓Zep, ↓Zeq, ↓Zer, ↓Zes, ↓Zet, ↓Zeu, ↓Zev, ↓Zew, ↓Zex, ↓Zey, ↓Zez, ↓Zfa, ↓Zfb, ↓Zfc, ↓Zfd, ↓Zfe, ↓Zff, ↓Zfg, ↓Zfh, ↓Zfi, ↓Zfj, ↓Zfk, ↓Zfl, ↓Zfm, ↓Zfn, ↓Zfo, ↓Zfp, ↓Zfq, ↓Zfr, ↓Zfs, ↓Zft, ↓Zfu, ↓Zfv, ↓Zfw, ↓Zfx, ↓Zfy, ↓Zfz, ↓Zga, ↓Zgb, ↓Zgc, ↓Zgd, ↓Zge, ↓Zgf, ↓Zgg, ↓Zgh, ↓Zgi, ↓Zgj, ↓Zgk, ↓Zgl, ↓Zgm, ↓Zgn, ↓Zgo, ↓Zgp, ↓Zgq, ↓Zgr, ↓Zgs, ↓Zgt, ↓Zgu, ↓Zgv, ↓Zgw, ↓Zgx, ↓Zgy, ↓Zgz, ↓Zha, ↓Zhb, ↓Zhc, ↓Zhd, ↓Zhe, ↓Zhf, ↓Zhg, ↓Zhh, ↓Zhi, ↓Zhj, ↓Zhk, ↓Zhl, ↓Zhm, ↓Zhn, ↓Zho, ↓Zhp, ↓Zhq, ↓Zhr, ↓Zhs, ↓Zht, ↓Zhu, ↓Zhv, ↓Zhw, ↓Zhx, ↓Zhy, ↓Zhz, ↓Zia, ↓Zib, ↓Zic, ↓Zid, ↓Zie, ↓Zif, ↓Zig, ↓Zih, ↓Zii, ↓Zij, ↓Zik, ↓Zil, ↓Zim, ↓Zin, ↓Zio, ↓Ziq, ↓Zir, ↓Zis, ↓Zit, ↓Ziu, ↓Ziv, ↓Ziw, ↓Zix, ↓Ziy, ↓Ziz, ↓Zja, ↓Zjb, ↓Zjc, ↓Zjd, ↓Zje, ↓Zjf, ↓Zjg, ↓Zjh, ↓Zji, ↓Zjj, ↓Zjk, ↓Zjl, ↓Zjm, ↓Zjn, ↓Zjo, ↓Zjp, ↓Zjq, ↓Zjr, ↓Zjs, ↓Zjt, ↓Zju, ↓Zjv, ↓Zjw, ↓Zjx, ↓Zjy, ↓Zjz, ↓Zka, ↓Zkb, ↓Zkc, ↓Zkd, ↓Zke, ↓Zkf, ↓Zkg, ↓Zkh, ↓Zki, ↓Zkj, ↓Zkk, ↓Zkl, ↓Zkm, ↓Zkn, ↓Zko, ↓Zkp, ↓Zkq, ↓Zkr, ↓Zks, ↓Zkt, ↓Zku, ↓Zkv, ↓Zkw, ↓Zkx, ↓Zky, ↓Zkz, reduceIte, if_true, if_false, Bool.false_eq_true, Bool.and_true, Bool.true_and, Bool.and_false, Bool.false_and, Bool.or_true, Bool.true_or, Bool.or_false, Bool.false_or, Int.cast_ofNat_Int, Zla, Zlb, beq_self_eq_true, Int.reduceBEq, Int.reduceLT, Int.reduceLE, Int.reduceEq, Int.reduceNeg, Nat.reduceLT, Zlc, Zld, Zle, Zlf, Zlg, Zlh, Zli, Zlj, Zlk, Zll, Zlm, Zln, Zlo, Zlp, Zlq, Zlr, Zls, Zlt, Zlu, Zlv, Zlw, Zlx, Zly, Zlz, Zma, Zmb, Zmc, Zmd, Zme, Zmf, Zmg, Zmh, Zmi, Zmj, Zmk, Zml, Zmm, Zmn, Zmo, Zmp, Zmq, Zmr, Zms, Zmt, Zmu, Zmv, Zmw, Zmx, Zmy, Zmz, Zna, Znb, Znc, Znd, Zne, Znf, Zng, Znh, Zni, Znj, Znk, Znl, Znm, Znn, Zno, List.lookup_nil, Znp, Znq, Option.map_some, Option.map_none, Option.bind_some, Option.bind_none, List.map_nil, List.map_cons, List.nil_append, List.cons_append, List.append_nil, List.length_cons, List.length_nil, Nat.reduceAdd, Nat.reduceLeDiff, Nat.reduceEqDiff, Nat.reduceBEq, decide_true, decide_false, Bool.not_true, Bool.not_false, Znr, Zns, Znt, Znu, Znv, Znw, Znx, Zny, Znz, Zoa, Zob, Zoc, Zod, Zoe, List.getElem?_cons_zero, List.getElem?_cons_succ, Zof, Zog, Zoh, Zoi, Zoj, Zok, Zol, Zom, Zon, Zoo, Zop, Zoq, Zor, Zos, Zot, Zou, Zov, Zow, Zox, Zoy, setX, Zoz, Zpa, Zpb, Int.ofNat_lt, Int.ofNat_le, Zpc, Zpd, Zpe, Zpf, Zpg, Zph, le_ch, e1, e2]
          refine ⟨rfl, rfl, ?_⟩
          simp [h1, h2]
      · have e1 : (!decide ([c] < [97])) = false := by
          have : [c] < [97] := by rw [List.cons_lt_cons_iff]; simp; omega
          simp [this]
        simp -implicitDefEqProofs -dsimp only [↓Zaa, ↓Zab, ↓Zac, ↓Zad, ↓Zae, ↓Zaf, ↓Zag, ↓Zah, ↓Zai, ↓Zaj, ↓Zak, ↓Zal, ↓Zam, ↓Zan, ↓Zao, ↓Zap, ↓Zaq, ↓Zar, ↓Zas, ↓Zat, ↓Zau, ↓Zav, ↓Zaw, ↓Zax, ↓Zay, ↓Zaz, ↓Zba, ↓Zbb, ↓Zbc, ↓Zbd, ↓Zbe, ↓Zbf, ↓Zbg, ↓Zbh, ↓Zbi, ↓Zbj, ↓Zbk, ↓Zbl, ↓Zbm, ↓Zbn, ↓Zbo, ↓Zbp, ↓Zbq, ↓Zbr, ↓Zbs, ↓Zbt, ↓Zbu, ↓Zbv, ↓Zbw, ↓Zbx, ↓Zby, ↓Zbz, ↓Zca, ↓Zcb, ↓Zcc, ↓Zcd, ↓Zce, ↓Zcf, ↓Zcg, ↓Zch, ↓Zci, ↓Zcj, ↓Zck, ↓Zcl, ↓Zcm, ↓Zcn, ↓Zco, ↓Zcp, ↓Zcq, ↓Zcr, ↓Zcs, ↓Zct, ↓Zcu, ↓Zcv, ↓Zcw, ↓Zcx, ↓Zcy, ↓Zcz, ↓Zda, ↓Zdb, ↓Zdc, ↓Zdd, ↓Zde, ↓Zdf, ↓Zdg, ↓Zdh, ↓Zdi, ↓Zdj, ↓Zdk, ↓Zdl, ↓Zdm, ↓Zdn, ↓Zdo, ↓Zdp, ↓Zdq, ↓Zdr, ↓Zds, ↓Zdt, ↓Zdu, ↓Zdv, ↓Zdw, ↓Zdx, ↓Zdy, ↓Zdz, ↓Zea, ↓Zeb, ↓Zec, ↓Zed, ↓Zee, ↓Zef, ↓Zeg, ↓Zeh, ↓Zei, ↓Zej, ↓Zek, ↓Zel, ↓Zem, ↓Zen, ↓Zeo, ↓Zep, ↓Zeq, ↓Zer, ↓Zes, ↓Zet, ↓Zeu, ↓Zev, ↓Zew, ↓Zex, ↓Zey, ↓Zez, ↓Zfa, ↓Zfb, ↓Zfc, ↓Zfd, ↓Zfe, ↓Zff, ↓Zfg, ↓Zfh, ↓Zfi, ↓Zfj, ↓Zfk, ↓Zfl, ↓Zfm, ↓Zfn, ↓Zfo, ↓Zfp, ↓Zfq, ↓Zfr, ↓Zfs, ↓Zft, ↓Zfu, ↓Zfv, ↓Zfw, ↓Zfx, ↓Zfy, ↓Zfz, ↓Zga, ↓Zgb, ↓Zgc, ↓Zgd, ↓Zge, ↓Zgf, ↓Zgg, ↓Zgh, ↓Zgi, ↓Zgj, ↓Zgk, ↓Zgl, ↓Zgm, ↓Zgn, ↓Zgo, ↓Zgp, ↓Zgq, ↓Zgr, ↓Zgs, ↓Zgt, ↓Zgu, ↓Zgv, ↓Zgw, ↓Zgx, ↓Zgy, ↓Zgz, ↓Zha, ↓Zhb, ↓Zhc, ↓Zhd, ↓Zhe, ↓Zhf, ↓Zhg, ↓Zhh, ↓Zhi, ↓Zhj, ↓Zhk, ↓Zhl, ↓Zhm, ↓Zhn, ↓Zho, ↓Zhp, ↓Zhq, ↓Zhr, ↓Zhs, ↓Zht, ↓Zhu, ↓Zhv, ↓Zhw, ↓Zhx, ↓Zhy, ↓Zhz, ↓Zia, ↓Zib, ↓Zic, ↓Zid, ↓Zie, ↓Zif, ↓Zig, ↓Zih, ↓Zii, ↓Zij, ↓Zik, ↓Zil, ↓Zim, ↓Zin, ↓Zio, ↓Ziq, ↓Zir, ↓Zis, ↓Zit, ↓Ziu, ↓Ziv, ↓Ziw, ↓Zix, ↓Ziy, ↓Ziz, ↓Zja, ↓Zjb, ↓Zjc, ↓Zjd, ↓Zje, ↓Zjf, ↓Zjg, ↓Zjh, ↓Zji, ↓Zjj, ↓Zjk, ↓Zjl, ↓Zjm, ↓Zjn, ↓Zjo, ↓Zjp, ↓Zjq, ↓Zjr, ↓Zjs, ↓Zjt, ↓Zju, ↓Zjv, ↓Zjw, ↓Zjx, ↓Zjy, ↓Zjz, ↓Zka, ↓Zkb, ↓Zkc, ↓Zkd, ↓Zke, ↓Zkf, ↓Zkg, ↓Zkh, ↓Zki, ↓Zkj, ↓Zkk, ↓Zkl, ↓Zkm, ↓Zkn, ↓Zko, ↓Zkp, ↓Zkq, ↓Zkr, ↓Zks, ↓Zkt, ↓Zku, ↓Zkv, ↓Zkw, ↓Zkx, ↓Zky, ↓Zkz, reduceIte, if_true, if_false, Bool.false_eq_true, Bool.and_true, Bool.true_and, Bool.and_false, Bool.false_and, Bool.or_true, Bool.true_or, Bool.or_false, Bool.false_or, Int.cast_ofNat_Int, Zla, Zlb, beq_self_eq_true, Int.reduceBEq, Int.reduceLT, Int.reduceLE, Int.reduceEq, Int.reduceNeg, Nat.reduceLT, Zlc, Zld, Zle, Zlf, Zlg, Zlh, Zli, Zlj, Zlk, Zll, Zlm, Zln, Zlo, Zlp, Zlq, Zlr, Zls, Zlt, Zlu, Zlv, Zlw, Zlx, Zly, Zlz, Zma, Zmb, Zmc, Zmd, Zme, Zmf, Zmg, Zmh, Zmi, Zmj, Zmk, Zml, Zmm, Zmn, Zmo, Zmp, Zmq, Zmr, Zms, Zmt, Zmu, Zmv, Zmw, Zmx, Zmy, Zmz, Zna, Znb, Znc, Znd, Zne, Znf, Zng, Znh, Zni, Znj, Znk, Znl, Znm, Znn, Zno, List.lookup_nil, Znp, Znq, Option.map_some, Option.map_none, Option.bind_some, Option.bind_none, List.map_nil, List.map_cons, List.nil_append, List.cons_append, List.append_nil, List.length_cons, List.length_nil, Nat.reduceAdd, Nat.reduceLeDiff, Nat.reduceEqDiff, Nat.reduceBEq, decide_true, decide_false, Bool.not_true, Bool.not_false, Znr, Zns, Znt, Znu, Znv, Znw, Znx, Zny, Znz, Zoa, Zob, Zoc, Zod, Zoe, List.getElem?_cons_zero, List.getElem?_cons_succ, Zof, Zog, Zoh, Zoi, Zoj, Zok, Zol, Zom, Zon, Zoo, Zop, Zoq, Zor, Zos, Zot, Zou, Zov, Zow, Zox, Zoy, setX, Zoz, Zpa, Zpb, Int.ofNat_lt, Int.ofNat_le, Zpc, Zpd, Zpe, Zpf, Zpg, Zph, le_ch, e1]
        refine ⟨rfl, rfl, ?_⟩
        simp [h1]
    · simp -implicitDefEqProofs -dsimp only [↓Zaa, ↓Zab, ↓Zac, ↓Zad, ↓Zae, ↓Zaf, ↓Zag, ↓Zah, ↓Zai, ↓Zaj, ↓Zak, ↓Zal, ↓Zam, ↓Zan, ↓Zao, ↓Zap, ↓Zaq, ↓Zar, ↓Zas, ↓Zat, ↓Zau, ↓Zav, ↓Zaw, ↓Zax, ↓Zay, ↓Zaz, ↓Zba, ↓Zbb, ↓Zbc, ↓Zbd, ↓Zbe, ↓Zbf, ↓Zbg, ↓Zbh, ↓Zbi, ↓Zbj, ↓Zbk, ↓Zbl, ↓Zbm, ↓Zbn, ↓Zbo, ↓Zbp, ↓Zbq, ↓Zbr, ↓Zbs, ↓Zbt, ↓Zbu, ↓Zbv, ↓Zbw, ↓Zbx, ↓Zby, ↓Zbz, ↓Zca, ↓Zcb, ↓Zcc, ↓Zcd, ↓Zce, ↓Zcf, ↓Zcg, ↓Zch, ↓Zci, ↓Zcj, ↓Zck, ↓Zcl, ↓Zcm, ↓Zcn, ↓Zco, ↓Zcp, ↓Zcq, ↓Zcr, ↓Zcs, ↓Zct, ↓Zcu, ↓Zcv, ↓Zcw, ↓Zcx, ↓Zcy, ↓Zcz, ↓Zda, ↓Zdb, ↓Zdc, ↓Zdd, ↓Zde, ↓Zdf, ↓Zdg, ↓Zdh, ↓Zdi, ↓Zdj, ↓Zdk, ↓Zdl, ↓Zdm, ↓Zdn, ↓Zdo, ↓Zdp, ↓Zdq, ↓Zdr, ↓Zds, ↓Zdt, ↓Zdu, ↓Zdv, ↓Zdw, ↓Zdx, ↓Zdy, ↓Zdz, ↓Zea, ↓Zeb, ↓Zec, ↓Zed, ↓Zee, ↓Zef, ↓Zeg, ↓Zeh, ↓Zei, ↓Zej, ↓Zek, ↓Zel, ↓Zem, ↓Zen, ↓Zeo, ↓Zep, ↓Zeq, ↓Zer, ↓Zes, ↓Zet, ↓Zeu, ↓Zev, ↓Zew, ↓Zex, ↓Zey, ↓Zez, ↓Zfa, ↓Zfb, ↓Zfc, ↓Zfd, ↓Zfe, ↓Zff, ↓Zfg, ↓Zfh, ↓Zfi, ↓Zfj, ↓Zfk, ↓Zfl, ↓Zfm, ↓Zfn, ↓Zfo, ↓Zfp, ↓Zfq, ↓Zfr, ↓Zfs, ↓Zft, ↓Zfu, ↓Zfv, ↓Zfw, ↓Zfx, ↓Zfy, ↓Zfz, ↓Zga, ↓Zgb, ↓Zgc, ↓Zgd, ↓Zge, ↓Zgf, ↓Zgg, ↓Zgh, ↓Zgi, ↓Zgj, ↓Zgk, ↓Zgl, ↓Zgm, ↓Zgn, ↓Zgo, ↓Zgp, ↓Zgq, ↓Zgr, ↓Zgs, ↓Zgt, ↓Zgu, ↓Zgv, ↓Zgw, ↓Zgx, ↓Zgy, ↓Zgz, ↓Zha, ↓Zhb, ↓Zhc, ↓Zhd, ↓Zhe, ↓Zhf, ↓Zhg, ↓Zhh, ↓Zhi, ↓Zhj, ↓Zhk, ↓Zhl, ↓Zhm, ↓Zhn, ↓Zho, ↓Zhp, ↓Zhq, ↓Zhr, ↓Zhs, ↓Zht, ↓Zhu, ↓Zhv, ↓Zhw, ↓Zhx, ↓Zhy, ↓Zhz, ↓Zia, ↓Zib, ↓Zic, ↓Zid, ↓Zie, ↓Zif, ↓Zig, ↓Zih, ↓Zii, ↓Zij, ↓Zik, ↓Zil, ↓Zim, ↓Zin, ↓Zio, ↓Ziq, ↓Zir, ↓Zis, ↓Zit, ↓Ziu, ↓Ziv, ↓Ziw, ↓Zix, ↓Ziy, ↓Ziz, ↓Zja, ↓Zjb, ↓Zjc, ↓Zjd, ↓Zje, ↓Zjf, ↓Zjg, ↓Zjh, ↓Zji, ↓Zjj, ↓Zjk, ↓Zjl, ↓Zjm, ↓Zjn, ↓Zjo, ↓Zjp, ↓Zjq, ↓Zjr, ↓Zjs, ↓Zjt, ↓Zju, ↓Zjv, ↓Zjw, ↓Zjx, ↓Zjy, ↓Zjz, ↓Zka, ↓Zkb, ↓Zkc, ↓Zkd, ↓Zke, ↓Zkf, ↓Zkg, ↓Zkh, ↓Zki, ↓Zkj, ↓Zkk, ↓Zkl, ↓Zkm, ↓Zkn, ↓Zko, ↓Zkp, ↓Zkq, ↓Zkr, ↓Zks, ↓Zkt, ↓Zku, ↓Zkv, ↓Zkw, ↓Zkx, ↓Zky, ↓Zkz, reduceIte, if_true, if_false, Bool.false_eq_true, Bool.and_true, Bool.true_and, Bool.and_false, Bool.false_and, Bool.or_true, Bool.true_or, Bool.or_false, Bool.false_or, Int.cast_ofNat_Int, Zla, Zlb, beq_self_eq_true, Int.reduceBEq, Int.reduceLT, Int.reduceLE, Int.reduceEq, Int.reduceNeg, Nat.reduceLT, Zlc, Zld, Zle, Zlf, Zlg, Zlh, Zli, Zlj, Zlk, Zll, Zlm, Zln, Zlo, Zlp, Zlq, Zlr, Zls, Zlt, Zlu, Zlv, Zlw, Zlx, Zly, Zlz, Zma, Zmb, Zmc, Zmd, Zme, Zmf, Zmg, Zmh, Zmi, Zmj, Zmk, Zml, Zmm, Zmn, Zmo, Zmp, Zmq, Zmr, Zms, Zmt, Zmu, Zmv, Zmw, Zmx, Zmy, Zmz, Zna, Znb, Znc, Znd, Zne, Znf, Zng, Znh, Zni, Znj, Znk, Znl, Znm, Znn, Zno, List.lookup_nil, Znp, Znq, Option.map_some, Option.map_none, Option.bind_some, Option.bind_none, List.map_nil, List.map_cons, List.nil_append, List.cons_append, List.append_nil, List.length_cons, List.length_nil, Nat.reduceAdd, Nat.reduceLeDiff, Nat.reduceEqDiff, Nat.reduceBEq, decide_true, decide_false, Bool.not_true, Bool.not_false, Znr, Zns, Znt, Znu, Znv, Znw, Znx, Zny, Znz, Zoa, Zob, Zoc, Zod, Zoe, List.getElem?_cons_zero, List.getElem?_cons_succ, Zof, Zog, Zoh, Zoi, Zoj, Zok, Zol, Zom, Zon, Zoo, Zop, Zoq, Zor, Zos, Zot, Zou, Zov, Zow, Zox, Zoy, setX, Zoz, Zpa, Zpb, Int.ofNat_lt, Int.ofNat_le, Zpc, Zpd, Zpe, Zpf, Zpg, Zph, Zop, h]
  apply run_check_word
  unfold g_check_word
  simp -implicitDefEqProofs -dsimp only [↓Zaa, ↓Zab, ↓Zac, ↓Zad, ↓Zae, ↓Zaf, ↓Zag, ↓Zah, ↓Zai, ↓Zaj, ↓Zak, ↓Zal, ↓Zam, ↓Zan, ↓Zao, ↓Zap, ↓Zaq, ↓Zar, ↓Zas, ↓Zat, ↓Zau, ↓Zav, ↓Zaw, ↓Zax, ↓Zay, ↓Zaz, ↓Zba, ↓Zbb, ↓Zbc, ↓Zbd, ↓Zbe, ↓Zbf, ↓Zbg, ↓Zbh, ↓Zbi, ↓Zbj, ↓Zbk, ↓Zbl, ↓Zbm, ↓Zbn, ↓Zbo, ↓Zbp, ↓Zbq, ↓Zbr, ↓Zbs, ↓Zbt, ↓Zbu, ↓Zbv, ↓Zbw, ↓Zbx, ↓Zby, ↓Zbz, ↓Zca, ↓Zcb, ↓Zcc, ↓Zcd, ↓Zce, ↓Zcf, ↓Zcg, ↓Zch, ↓Zci, ↓Zcj, ↓Zck, ↓Zcl, ↓Zcm, ↓Zcn, ↓Zco, ↓Zcp, ↓Zcq, ↓Zcr, ↓Zcs, ↓Zct, ↓Zcu, ↓Zcv, ↓Zcw, ↓Zcx, ↓Zcy, ↓Zcz, ↓Zda, ↓Zdb, ↓Zdc, ↓Zdd, ↓Zde, ↓Zdf, ↓Zdg, ↓Zdh, ↓Zdi, ↓Zdj, ↓Zdk, ↓Zdl, ↓Zdm, ↓Zdn, ↓Zdo, ↓Zdp, ↓Zdq, ↓Zdr, ↓Zds, ↓Zdt, ↓Zdu, ↓Zdv, ↓Zdw, ↓Zdx, ↓Zdy, ↓Zdz, ↓Zea, ↓Zeb, ↓Zec, ↓Zed, ↓Zee, ↓Zef, ↓Zeg, ↓Zeh, ↓Zei, ↓Zej, ↓Zek, ↓Zel, ↓Zem, ↓Zen, ↓Zeo, ↓Zep, ↓Zeq, ↓Zer, ↓Zes, ↓Zet, ↓Zeu, ↓Zev, ↓Zew, ↓Zex, ↓Zey, ↓Zez, ↓Zfa, ↓Zfb, ↓Zfc, ↓Zfd, ↓Zfe, ↓Zff, ↓Zfg, ↓Zfh, ↓Zfi, ↓Zfj, ↓Zfk, ↓Zfl, ↓Zfm, ↓Zfn, ↓Zfo, ↓Zfp, ↓Zfq, ↓Zfr, ↓Zfs, ↓Zft, ↓Zfu, ↓Zfv, ↓Zfw, ↓Zfx, ↓Zfy, ↓Zfz, ↓Zga, ↓Zgb, ↓Zgc, ↓Zgd, ↓Zge, ↓Zgf, ↓Zgg, ↓Zgh, ↓Zgi, ↓Zgj, ↓Zgk, ↓Zgl, ↓Zgm, ↓Zgn, ↓Zgo, ↓Zgp, ↓Zgq, ↓Zgr, ↓Zgs, ↓Zgt, ↓Zgu, ↓Zgv, ↓Zgw, ↓Zgx, ↓Zgy, ↓Zgz, ↓Zha, ↓Zhb, ↓Zhc, ↓Zhd, ↓Zhe, ↓Zhf, ↓Zhg, ↓Zhh, ↓Zhi, ↓Zhj, ↓Zhk, ↓Zhl, ↓Zhm, ↓Zhn, ↓Zho, ↓Zhp, ↓Zhq, ↓Zhr, ↓Zhs, ↓Zht, ↓Zhu, ↓Zhv, ↓Zhw, ↓Zhx, ↓Zhy, ↓Zhz, ↓Zia, ↓Zib, ↓Zic, ↓Zid, ↓Zie, ↓Zif, ↓Zig, ↓Zih, ↓Zii, ↓Zij, ↓Zik, ↓Zil, ↓Zim, ↓Zin, ↓Zio, ↓Ziq, ↓Zir, ↓Zis, ↓Zit, ↓Ziu, ↓Ziv, ↓Ziw, ↓Zix, ↓Ziy, ↓Ziz, ↓Zja, ↓Zjb, ↓Zjc, ↓Zjd, ↓Zje, ↓Zjf, ↓Zjg, ↓Zjh, ↓Zji, ↓Zjj, ↓Zjk, ↓Zjl, ↓Zjm, ↓Zjn, ↓Zjo, ↓Zjp, ↓Zjq, ↓Zjr, ↓Zjs, ↓Zjt, ↓Zju, ↓Zjv, ↓Zjw, ↓Zjx, ↓Zjy, ↓Zjz, ↓Zka, ↓Zkb, ↓Zkc, ↓Zkd, ↓Zke, ↓Zkf, ↓Zkg, ↓Zkh, ↓Zki, ↓Zkj, ↓Zkk, ↓Zkl, ↓Zkm, ↓Zkn, ↓Zko, ↓Zkp, ↓Zkq, ↓Zkr, ↓Zks, ↓Zkt, ↓Zku, ↓Zkv, ↓Zkw, ↓Zkx, ↓Zky, ↓Zkz, reduceIte, if_true, if_false, Bool.false_eq_true, Bool.and_true, Bool.true_and, Bool.and_false, Bool.false_and, Bool.or_true, Bool.true_or, Bool.or_false, Bool.false_or, Int.cast_ofNat_Int, Zla, Zlb, beq_self_eq_true, Int.reduceBEq, Int.reduceLT, Int.reduceLE, Int.reduceEq, Int.reduceNeg, Nat.reduceLT, Zlc, Zld, Zle, Zlf, Zlg, Zlh, Zli, Zlj, Zlk, Zll, Zlm, Zln, Zlo, Zlp, Zlq, Zlr, Zls, Zlt, Zlu, Zlv, Zlw, Zlx, Zly, Zlz, Zma, Zmb, Zmc, Zmd, Zme, Zmf, Zmg, Zmh, Zmi, Zmj, Zmk, Zml, Zmm, Zmn, Zmo, Zmp, Zmq, Zmr, Zms, Zmt, Zmu, Zmv, Zmw, Zmx, Zmy, Zmz, Zna, Znb, Znc, Znd, Zne, Znf, Zng, Znh, Zni, Znj, Znk, Znl, Znm, Znn, Zno, List.lookup_nil, Znp, Znq, Option.map_some, Option.map_none, Option.bind_some, Option.bind_none, List.map_nil, List.map_cons, List.nil_append, List.cons_append, List.append_nil, List.length_cons, List.length_nil, Nat.reduceAdd, Nat.reduceLeDiff, Nat.reduceEqDiff, Nat.reduceBEq, decide_true, decide_false, Bool.not_true, Bool.not_false, Znr, Zns, Znt, Znu, Znv, Znw, Znx, Zny, Znz, Zoa, Zob, Zoc, Zod, Zoe, List.getElem?_cons_zero, List.getElem?_cons_succ, Zof, Zog, Zoh, Zoi, Zoj, Zok, Zol, Zom, Zon, Zoo, Zop, Zoq, Zor, Zos, Zot, Zou, Zov, Zow, Zox, Zoy, setX, Zoz, Zpa, Zpb, Int.ofNat_lt, Int.ofNat_le, Zpc, Zpd, Zpe, Zpf, Zpg, Zph, q]
theorem c_long {w : List Nat} (hl : 60 < w.length) (hl3 : w.length ≤ 1000) (h : Lw w) : φ_check_word [.val (.str w)] = .ex ⟨1, []⟩ [] := by
  have q : φ_is_word [.val (.str w)] = .ok (.d (.bl true)) [] := by
    apply run_is_word
    unfold g_is_word
    simp -implicitDefEqProofs -dsimp only [↓Zaa, ↓Zab, ↓Zac, ↓Zad, ↓Zae, ↓Zaf, ↓Zag, ↓Zah, ↓Zai, ↓Zaj, ↓Zak, ↓Zal, ↓Zam, ↓Zan, ↓Zao, ↓Zap, ↓Zaq, ↓Zar, ↓Zas, ↓Zat, ↓Zau, ↓Zav, ↓Zaw, ↓Zax, ↓Zay, ↓Zaz, ↓Zba, ↓Zbb, ↓Zbc, ↓Zbd, ↓Zbe, ↓Zbf, ↓Zbg, ↓Zbh, ↓Zbi, ↓Zbj, ↓Zbk, ↓Zbl, ↓Zbm, ↓Zbn, ↓Zbo, ↓Zbp, ↓Zbq, ↓Zbr, ↓Zbs, ↓Zbt, ↓Zbu, ↓Zbv, ↓Zbw, ↓Zbx, ↓Zby, ↓Zbz, ↓Zca, ↓Zcb, ↓Zcc, ↓Zcd, ↓Zce, ↓Zcf, ↓Zcg, ↓Zch, ↓Zci, ↓Zcj, ↓Zck, ↓Zcl, ↓Zcm, ↓Zcn, ↓Zco, ↓Zcp, ↓Zcq, ↓Zcr, ↓Zcs, ↓Zct, ↓Zcu, ↓Zcv, ↓Zcw, ↓Zcx, ↓Zcy, ↓Zcz, ↓Zda, ↓Zdb, ↓Zdc, ↓Zdd, ↓Zde, ↓Zdf, ↓Zdg, ↓Zdh, ↓Zdi, ↓Zdj, ↓Zdk, ↓Zdl, ↓Zdm, ↓Zdn, ↓Zdo, ↓Zdp, ↓Zdq, ↓Zdr, ↓Zds, ↓Zdt, ↓Zdu, ↓Zdv, ↓Zdw, ↓Zdx, ↓Zdy, ↓Zdz, ↓Zea, ↓Zeb, ↓Zec, ↓Zed, ↓Zee, ↓Zef, ↓Zeg, ↓Zeh, ↓Zei, ↓Zej, ↓Zek, ↓Zel, ↓Zem, ↓Zen, ↓Zeo, ↓Zep, ↓Zeq, ↓Zer, ↓Zes, ↓Zet, ↓Zeu, ↓Zev, ↓Zew, ↓Zex, ↓Zey, ↓Zez, ↓Zfa, ↓Zfb, ↓Zfc, ↓Zfd, ↓Zfe, ↓Zff, ↓Zfg, ↓Zfh, ↓Zfi, ↓Zfj, ↓Zfk, ↓Zfl, ↓Zfm, ↓Zfn, ↓Zfo, ↓Zfp, ↓Zfq, ↓Zfr, ↓Zfs, ↓Zft, ↓Zfu, ↓Zfv, ↓Zfw, ↓Zfx, ↓Zfy, ↓Zfz, ↓Zga, ↓Zgb, ↓Zgc, ↓Zgd, ↓Zge, ↓Zgf, ↓Zgg, ↓Zgh, ↓Zgi, ↓Zgj, ↓Zgk, ↓Zgl, ↓Zgm, ↓Zgn, ↓Zgo, ↓Zgp, ↓Zgq, ↓Zgr, ↓Zgs, ↓Zgt, ↓Zgu, ↓Zgv, ↓Zgw, ↓Zgx, ↓Zgy, ↓Zgz, ↓Zha, ↓Zhb, ↓Zhc, ↓Zhd, ↓Zhe, ↓Zhf, ↓Zhg, ↓Zhh, ↓Zhi, ↓Zhj, ↓Zhk, ↓Zhl, ↓Zhm, ↓Zhn, ↓Zho, ↓Zhp, ↓Zhq, ↓Zhr, ↓Zhs, ↓Zht, ↓Zhu, ↓Zhv, ↓Zhw, ↓Zhx, ↓Zhy, ↓Zhz, ↓Zia, ↓Zib, ↓Zic, ↓Zid, ↓Zie, ↓Zif, ↓Zig, ↓Zih, ↓Zii, ↓Zij, ↓Zik, ↓Zil, ↓Zim, ↓Zin, ↓Zio, ↓Ziq, ↓Zir, ↓Zis, ↓Zit, ↓Ziu, ↓Ziv, ↓Ziw, ↓Zix, ↓Ziy, ↓Ziz, ↓Zja, ↓Zjb, ↓Zjc, ↓Zjd, ↓Zje, ↓Zjf, ↓Zjg, ↓Zjh, ↓Zji, ↓Zjj, ↓Zjk, ↓Zjl, ↓Zjm, ↓Zjn, ↓Zjo, ↓Zjp, ↓Zjq, ↓Zjr, ↓Zjs, ↓Zjt, ↓Zju, ↓Zjv, ↓Zjw, ↓Zjx, ↓Zjy, ↓Zjz, ↓Zka, ↓Zkb, ↓Zkc, ↓Zkd, ↓Zke, ↓Zkf, ↓Zkg, ↓Zkh, ↓Zki, ↓Zkj, ↓Zkk, ↓Zkl, ↓Zkm, ↓Zkn, ↓Zko, ↓Zkp, ↓Zkq, ↓Zkr, ↓Zks, ↓Zkt, ↓Zku, ↓Zkv, ↓Zkw, ↓Zkx, ↓Zky, ↓Zkz, reduceIte, if_true, if_false, Bool.false_eq_true, Bool.and_true, Bool.true_and, Bool.and_false, Bool.false_and, Bool.or_true, Bool.true_or, Bool.or_false, Bool.false_or, Int.cast_ofNat_Int, Zla, Zlb, beq_self_eq_true, Int.reduceBEq, Int.reduceLT, Int.reduceLE, Int.reduceEq, Int.reduceNeg, Nat.reduceLT, Zlc, Zld, Zle, Zlf, Zlg, Zlh, Zli, Zlj, Zlk, Zll, Zlm, Zln, Zlo, Zlp, Zlq, Zlr, Zls, Zlt, Zlu, Zlv, Zlw, Zlx, Zly, Zlz, Zma, Zmb, Zmc, Zmd, Zme, Zmf, Zmg, Zmh, Zmi, Zmj, Zmk, Zml, Zmm, Zmn, Zmo, Zmp, Zmq, Zmr, Zms, Zmt, Zmu, Zmv, Zmw, Zmx, Zmy, Zmz, Zna, Znb, Znc, Znd, Zne, Znf, Zng, Znh, Zni, Znj, Znk, Znl, Znm, Znn, Zno, List.lookup_nil, Znp, Znq, Option.map_some, Option.map_none, Option.bind_some, Option.bind_none, List.map_nil, List.map_cons, List.nil_append, List.cons_append, List.append_nil, List.length_cons, List.length_nil, Nat.reduceAdd, Nat.reduceLeDiff, Nat.reduceEqDiff, Nat.reduceBEq, decide_true, decide_false, Bool.not_true, Bool.not_false, Znr, Zns, Znt, Znu, Znv, Znw, Znx, Zny, Znz, Zoa, Zob, Zoc, Zod, Zoe, List.getElem?_cons_zero, List.getElem?_cons_succ, Zof, Zog, Zoh, Zoi, Zoj, Zok, Zol, Zom, Zon, Zoo, Zop, Zoq, Zor, Zos, Zot, Zou, Zov, Zow, Zox, Zoy, setX, Zoz, Zpa, Zpb, Int.ofNat_lt, Int.ofNat_le, Zpc, Zpd, Zpe, Zpf, Zpg, Zph]
    refine lc_map (l := w) (g := fun c => .str [c]) (fun _ => .bl true) rfl (by omega) (fun c hc => ?_) ?_
    · obtain ⟨h1, h2⟩ := h c hc
      have e1 : (!decide ([c] < [97])) = true := by
        have : ¬ ([c] < [97]) := by rw [List.cons_lt_cons_iff]; simp; omega
        simp [this]
      have e2 : (!decide ([122] < [c])) = true := by
        have : ¬ ([122] < [c]) := by rw [List.cons_lt_cons_iff]; simp; omega
        simp [this]
      simp only [wipeE, List.set_cons_zero, List.set_cons_succ]
      simp -implicitDefEqProofs -dsimp only [↓Zaa, ↓Zab, ↓Zac, ↓Zad, ↓Zae, ↓Zaf, ↓Zag, ↓Zah, ↓Zai, ↓Zaj, ↓Zak, ↓Zal, ↓Zam, ↓Zan, ↓Zao, ↓Zap, ↓Zaq, ↓Zar, ↓Zas, ↓Zat, ↓Zau, ↓Zav, ↓Zaw, ↓Zax, ↓Zay, ↓Zaz, ↓Zba, ↓Zbb, ↓Zbc, ↓Zbd, ↓Zbe, ↓Zbf, ↓Zbg, ↓Zbh, ↓Zbi, ↓Zbj, ↓Zbk, ↓Zbl, ↓Zbm, ↓Zbn, ↓Zbo, ↓Zbp, ↓Zbq, ↓Zbr, ↓Zbs, ↓Zbt, ↓Zbu, ↓Zbv, ↓Zbw, ↓Zbx, ↓Zby, ↓Zbz, ↓Zca, ↓Zcb, ↓Zcc, ↓Zcd, ↓Zce, ↓Zcf, ↓Zcg, ↓Zch, ↓Zci, ↓Zcj, ↓Zck, ↓Zcl, ↓Zcm, ↓Zcn, ↓Zco, ↓Zcp, ↓Zcq, ↓Zcr, ↓Zcs, ↓Zct, ↓Zcu, ↓Zcv, ↓Zcw, ↓Zcx, ↓Zcy, ↓Zcz, ↓Zda, ↓Zdb, ↓Zdc, ↓Zdd, ↓Zde, ↓Zdf, ↓Zdg, ↓Zdh, ↓Zdi, ↓Zdj, ↓Zdk, ↓Zdl, ↓Zdm, ↓Zdn, ↓Zdo, ↓Zdp, ↓Zdq, ↓Zdr, ↓Zds, ↓Zdt, ↓Zdu, ↓Zdv, ↓Zdw, ↓Zdx, ↓Zdy, ↓Zdz, ↓Zea, ↓Zeb, ↓Zec, ↓Zed, ↓Zee, ↓Zef, ↓Zeg, ↓Zeh, ↓Zei, ↓Zej, ↓Zek, ↓Zel, ↓Zem, ↓Zen, ↓Zeo, ↓Zep, ↓Zeq, ↓Zer, ↓Zes, ↓Zet, ↓Zeu, ↓Zev, ↓Zew, ↓Zex, ↓Zey, ↓Zez, ↓Zfa, ↓Zfb, ↓Zfc, ↓Zfd, ↓Zfe, ↓Zff, ↓Zfg, ↓Zfh, ↓Zfi, ↓Zfj, ↓Zfk, ↓Zfl, ↓Zfm, ↓Zfn, ↓Zfo, ↓Zfp, ↓Zfq, ↓Zfr, ↓Zfs, ↓Zft, ↓Zfu, ↓Zfv, ↓Zfw, ↓Zfx, ↓Zfy, ↓Zfz, ↓Zga, ↓Zgb, ↓Zgc, ↓Zgd, ↓Zge, ↓Zgf, ↓Zgg, ↓Zgh, ↓Zgi, ↓Zgj, ↓Zgk, ↓Zgl, ↓Zgm, ↓Zgn, ↓Zgo, ↓Zgp, ↓Zgq, ↓Zgr, ↓Zgs, ↓Zgt, ↓Zgu, ↓Zgv, ↓Zgw, ↓Zgx, ↓Zgy, ↓Zgz, ↓Zha, ↓Zhb, ↓Zhc, ↓Zhd, ↓Zhe, ↓Zhf, ↓Zhg, ↓Zhh, ↓Zhi, ↓Zhj, ↓Zhk, ↓Zhl, ↓Zhm, ↓Zhn, ↓Zho, ↓Zhp, ↓Zhq, ↓Zhr, ↓Zhs, ↓Zht, ↓Zhu, ↓Zhv, ↓Zhw, ↓Zhx, ↓Zhy, ↓Zhz, ↓Zia, ↓Zib, ↓Zic, ↓Zid, ↓Zie, ↓Zif, ↓Zig, ↓Zih, ↓Zii, ↓Zij, ↓Zik, ↓Zil, ↓Zim, ↓Zin, ↓Zio, ↓Ziq, ↓Zir, ↓Zis, ↓Zit, ↓Ziu, ↓Ziv, ↓Ziw, ↓Zix, ↓Ziy, ↓Ziz, ↓Zja, ↓Zjb, ↓Zjc, ↓Zjd, ↓Zje, ↓Zjf, ↓Zjg, ↓Zjh, ↓Zji, ↓Zjj, ↓Zjk, ↓Zjl, ↓Zjm, ↓Zjn, ↓Zjo, ↓Zjp, ↓Zjq, ↓Zjr, ↓Zjs, ↓Zjt, ↓Zju, ↓Zjv, ↓Zjw, ↓Zjx, ↓Zjy, ↓Zjz, ↓Zka, ↓Zkb, ↓Zkc, ↓Zkd, ↓Zke, ↓Zkf, ↓Zkg, ↓Zkh, ↓Zki, ↓Zkj, ↓Zkk, ↓Zkl, ↓Zkm, ↓Zkn, ↓Zko, ↓Zkp, ↓Zkq, ↓Zkr, ↓Zks, ↓Zkt, ↓Zku, ↓Zkv, ↓Zkw, ↓Zkx, ↓Zky, ↓Zkz, reduceIte, if_true, if_false, Bool.false_eq_true, Bool.and_true, Bool.true_and, Bool.and_false, Bool.false_and, Bool.or_true, Bool.true_or, Bool.or_false, Bool.false_or, Int.cast_ofNat_Int, Zla, Zlb, beq_self_eq_true, Int.reduceBEq, Int.reduceLT, Int.reduceLE, Int.reduceEq, Int.reduceNeg, Nat.reduceLT, Zlc, Zld, Zle, Zlf, Zlg, Zlh, Zli, Zlj, Zlk, Zll, Zlm, Zln, Zlo, Zlp, Zlq, Zlr, Zls, Zlt, Zlu, Zlv, Zlw, Zlx, Zly, Zlz, Zma, Zmb, Zmc, Zmd, Zme, Zmf, Zmg, Zmh, Zmi, Zmj, Zmk, Zml, Zmm, Zmn, Zmo, Zmp, Zmq, Zmr, Zms, Zmt, Zmu, Zmv, Zmw, Zmx, Zmy, Zmz, Zna, Znb, Znc, Znd, Zne, Znf, Zng, Znh, Zni, Znj, Znk, Znl, Znm, Znn, Zno, List.lookup_nil, Znp, Znq, Option.map_some, Option.map_none, Option.bind_some, Option.bind_none, List.map_nil, List.map_cons, List.nil_append, List.cons_append, List.append_nil, List.length_cons, List.length_nil, Nat.reduceAdd, Nat.reduceLeDiff, Nat.reduceEqDiff, Nat.reduceBEq, decide_true, decide_false, Bool.not_true, Bool.not_false, Znr, Zns, Znt, Znu, Znv, Znw, Znx, Zny, Znz, Zoa, Zob, Zoc, Zod, Zoe, List.getElem?_cons_zero, List.getElem?_cons_succ, Zof, Zog, Zoh, Zoi, Zoj, Zok, Zol, Zom, Zon, Zoo, Zop, Zoq, Zor, Zos, Zot, Zou, Zov, Zow, Zox, Zoy, setX, Zoz, Zpa, Zpb, Int.ofNat_lt, Int.ofNat_le, Zpc, Zpd, Zpe, Zpf, Zpg, Zph, le_ch, e1, e2]
      exact ⟨rfl, rfl, trivial⟩
    · have e : bAll [.lst (w.map fun _ => .bl true)] = some (.d (.bl true)) := by
        rw [Zop (l := w) (f := fun _ => true)]
        simp
      simp -implicitDefEqProofs -dsimp only [↓Zaa, ↓Zab, ↓Zac, ↓Zad, ↓Zae, ↓Zaf, ↓Zag, ↓Zah, ↓Zai, ↓Zaj, ↓Zak, ↓Zal, ↓Zam, ↓Zan, ↓Zao, ↓Zap, ↓Zaq, ↓Zar, ↓Zas, ↓Zat, ↓Zau, ↓Zav, ↓Zaw, ↓Zax, ↓Zay, ↓Zaz, ↓Zba, ↓Zbb, ↓Zbc, ↓Zbd, ↓Zbe, ↓Zbf, ↓Zbg, ↓Zbh, ↓Zbi, ↓Zbj, ↓Zbk, ↓Zbl, ↓Zbm, ↓Zbn, ↓Zbo, ↓Zbp, ↓Zbq, ↓Zbr, ↓Zbs, ↓Zbt, ↓Zbu, ↓Zbv, ↓Zbw, ↓Zbx, ↓Zby, ↓Zbz, ↓Zca, ↓Zcb, ↓Zcc, ↓Zcd, ↓Zce, ↓Zcf, ↓Zcg, ↓Zch, ↓Zci, ↓Zcj, ↓Zck, ↓Zcl, ↓Zcm, ↓Zcn, ↓Zco, ↓Zcp, ↓Zcq, ↓Zcr, ↓Zcs, ↓Zct, ↓Zcu, ↓Zcv, ↓Zcw, ↓Zcx, ↓Zcy, ↓Zcz, ↓Zda, ↓Zdb, ↓Zdc, ↓Zdd, ↓Zde, ↓Zdf, ↓Zdg, ↓Zdh, ↓Zdi, ↓Zdj, ↓Zdk, ↓Zdl, ↓Zdm, ↓Zdn, ↓Zdo, ↓Zdp, ↓Zdq, ↓Zdr, ↓Zds, ↓Zdt, ↓Zdu, ↓Zdv, ↓Zdw, ↓Zdx, ↓Zdy, ↓Zdz, ↓Zea, ↓Zeb, ↓Zec, ↓Zed, ↓Zee, ↓Zef, ↓Zeg, ↓Zeh, ↓Zei, ↓Zej, ↓Zek, ↓Zel, ↓Zem, ↓Zen, ↓Zeo, ↓Zep, ↓Zeq, ↓Zer, ↓Zes, ↓Zet, ↓Zeu, ↓Zev, ↓Zew, ↓Zex, ↓Zey, ↓Zez, ↓Zfa, ↓Zfb, ↓Zfc, ↓Zfd, ↓Zfe, ↓Zff, ↓Zfg, ↓Zfh, ↓Zfi, ↓Zfj, ↓Zfk, ↓Zfl, ↓Zfm, ↓Zfn, ↓Zfo, ↓Zfp, ↓Zfq, ↓Zfr, ↓Zfs, ↓Zft, ↓Zfu, ↓Zfv, ↓Zfw, ↓Zfx, ↓Zfy, ↓Zfz, ↓Zga, ↓Zgb, ↓Zgc, ↓Zgd, ↓Zge, ↓Zgf, ↓Zgg, ↓Zgh, ↓Zgi, ↓Zgj, ↓Zgk, ↓Zgl, ↓Zgm, ↓Zgn, ↓Zgo, ↓Zgp, ↓Zgq, ↓Zgr, ↓Zgs, ↓Zgt, ↓Zgu, ↓Zgv, ↓Zgw, ↓Zgx, ↓Zgy, ↓Zgz, ↓Zha, ↓Zhb, ↓Zhc, ↓Zhd, ↓Zhe, ↓Zhf, ↓Zhg, ↓Zhh, ↓Zhi, ↓Zhj, ↓Zhk, ↓Zhl, ↓Zhm, ↓Zhn, ↓Zho, ↓Zhp, ↓Zhq, ↓Zhr, ↓Zhs, ↓Zht, ↓Zhu, ↓Zhv, ↓Zhw, ↓Zhx, ↓Zhy, ↓Zhz, ↓Zia, ↓Zib, ↓Zic, ↓Zid, ↓Zie, ↓Zif, ↓Zig, ↓Zih, ↓Zii, ↓Zij, ↓Zik, ↓Zil, ↓Zim, ↓Zin, ↓Zio, ↓Ziq, ↓Zir, ↓Zis, ↓Zit, ↓Ziu, ↓Ziv, ↓Ziw, ↓Zix, ↓Ziy, ↓Ziz, ↓Zja, ↓Zjb, ↓Zjc, ↓Zjd, ↓Zje, ↓Zjf, ↓Zjg, ↓Zjh, ↓Zji, ↓Zjj, ↓Zjk, ↓Zjl, ↓Zjm, ↓Zjn, ↓Zjo, ↓Zjp, ↓Zjq, ↓Zjr, ↓Zjs, ↓Zjt, ↓Zju, ↓Zjv, ↓Zjw, ↓Zjx, ↓Zjy, ↓Zjz, ↓Zka, ↓Zkb, ↓Zkc, ↓Zkd, ↓Zke, ↓Zkf, ↓Zkg, ↓Zkh, ↓Zki, ↓Zkj, ↓Zkk, ↓Zkl, ↓Zkm, ↓Zkn, ↓Zko, ↓Zkp, ↓Zkq, ↓Zkr, ↓Zks, ↓Zkt, ↓Zku, ↓Zkv, ↓Zkw, ↓Zkx, ↓Zky, ↓Zkz, reduceIte, if_true, if_false, Bool.false_eq_true, Bool.and_true, Bool.true_and, Bool.and_false, Bool.false_and, Bool.or_true, Bool.true_or, Bool.or_false, Bool.false_or, Int.cast_ofNat_Int, Zla, Zlb, beq_self_eq_true, Int.reduceBEq, Int.reduceLT, Int.reduceLE, Int.reduceEq, Int.reduceNeg, Nat.reduceLT, Zlc, Zld, Zle, Zlf, Zlg, Zlh, Zli, Zlj, Zlk, Zll, Zlm, Zln, Zlo, Zlp, Zlq, Zlr, Zls, Zlt, Zlu, Zlv, Zlw, Zlx, Zly, Zlz, Zma, Zmb, Zmc, Zmd, Zme, Zmf, Zmg, Zmh, Zmi, Zmj, Zmk, Zml, Zmm, Zmn, Zmo, Zmp, Zmq, Zmr, Zms, Zmt, Zmu, Zmv, Zmw, Zmx, Zmy, Zmz, Zna, Znb, Znc, Znd, Zne, Znf, Zng, Znh, Zni, Znj, Znk, Znl, Znm, Znn, Zno, List.lookup_nil, Znp, Znq, Option.map_some, Option.map_none, Option.bind_some, Option.bind_none, List.map_nil, List.map_cons, List.nil_append, List.cons_append, List.append_nil, List.length_cons, List.length_nil, Nat.reduceAdd, Nat.reduceLeDiff, Nat.reduceEqDiff, Nat.reduceBEq, decide_true, decide_false, Bool.not_true, Bool.not_false, Znr, Zns, Znt, Znu, Znv, Znw, Znx, Zny, Znz, Zoa, Zob, Zoc, Zod, Zoe, List.getElem?_cons_zero, List.getElem?_cons_succ, Zof, Zog, Zoh, Zoi, Zoj, Zok, Zol, Zom, Zon, Zoo, Zop, Zoq, Zor, Zos, Zot, Zou, Zov, Zow, Zox, Zoy, setX, Zoz, Zpa, Zpb, Int.ofNat_lt, Int.ofNat_le, Zpc, Zpd, Zpe, Zpf, Zpg, Zph, e]
  apply run_check_word
  unfold g_check_word
  have hl2 : w.length ≤ 16777216 := by omega
  have e1 : decide (60 < (w.length : Int)) = true := decide_eq_true (by omega)
  simp -implicitDefEqProofs -dsimp only [↓Zaa, ↓Zab, ↓Zac, ↓Zad, ↓Zae, ↓Zaf, ↓Zag, ↓Zah, ↓Zai, ↓Zaj, ↓Zak, ↓Zal, ↓Zam, ↓Zan, ↓Zao, ↓Zap, ↓Zaq, ↓Zar, ↓Zas, ↓Zat, ↓Zau, ↓Zav, ↓Zaw, ↓Zax, ↓Zay, ↓Zaz, ↓Zba, ↓Zbb, ↓Zbc, ↓Zbd, ↓Zbe, ↓Zbf, ↓Zbg, ↓Zbh, ↓Zbi, ↓Zbj, ↓Zbk, ↓Zbl, ↓Zbm, ↓Zbn, ↓Zbo, ↓Zbp, ↓Zbq, ↓Zbr, ↓Zbs, ↓Zbt, ↓Zbu, ↓Zbv, ↓Zbw, ↓Zbx, ↓Zby, ↓Zbz, ↓Zca, ↓Zcb, ↓Zcc, ↓Zcd, ↓Zce, ↓Zcf, ↓Zcg, ↓Zch, ↓Zci, ↓Zcj, ↓Zck, ↓Zcl, ↓Zcm, ↓Zcn, ↓Zco, ↓Zcp, ↓Zcq, ↓Zcr, ↓Zcs, ↓Zct, ↓Zcu, ↓Zcv, ↓Zcw, ↓Zcx, ↓Zcy, ↓Zcz, ↓Zda, ↓Zdb, ↓Zdc, ↓Zdd, ↓Zde, ↓Zdf, ↓Zdg, ↓Zdh, ↓Zdi, ↓Zdj, ↓Zdk, ↓Zdl, ↓Zdm, ↓Zdn, ↓Zdo, ↓Zdp, ↓Zdq, ↓Zdr, ↓Zds, ↓Zdt, ↓Zdu, ↓Zdv, ↓Zdw, ↓Zdx, ↓Zdy, ↓Zdz, ↓Zea, ↓Zeb, ↓Zec, ↓Zed, ↓Zee, ↓Zef, ↓Zeg, ↓Zeh, ↓Zei, ↓Zej, ↓Zek, ↓Zel, ↓Zem, ↓Zen, ↓Zeo, ↓Zep, ↓Zeq, ↓Zer, ↓Zes, ↓Zet, ↓Zeu, ↓Zev, ↓Zew, ↓Zex, ↓Zey, ↓Zez, ↓Zfa, ↓Zfb, ↓Zfc, ↓Zfd, ↓Zfe, ↓Zff, ↓Zfg, ↓Zfh, ↓Zfi, ↓Zfj, ↓Zfk, ↓Zfl, ↓Zfm, ↓Zfn, ↓Zfo, ↓Zfp, ↓Zfq, ↓Zfr, ↓Zfs, ↓Zft, ↓Zfu, ↓Zfv, ↓Zfw, ↓Zfx, ↓Zfy, ↓Zfz, ↓Zga, ↓Zgb, ↓Zgc, ↓Zgd, ↓Zge, ↓Zgf, ↓Zgg, ↓Zgh, ↓Zgi, ↓Zgj, ↓Zgk, ↓Zgl, ↓Zgm, ↓Zgn, ↓Zgo, ↓Zgp, ↓Zgq, ↓Zgr, ↓Zgs, ↓Zgt, ↓Zgu, ↓Zgv, ↓Zgw, ↓Zgx, ↓Zgy, ↓Zgz, ↓Zha, ↓Zhb, ↓Zhc, ↓Zhd, ↓Zhe, ↓Zhf, ↓Zhg, ↓Zhh, ↓Zhi, ↓Zhj, ↓Zhk, ↓Zhl, ↓Zhm, ↓Zhn, ↓Zho, ↓Zhp, ↓Zhq, ↓Zhr, ↓Zhs, ↓Zht, ↓Zhu, ↓Zhv, ↓Zhw, ↓Zhx, ↓Zhy, ↓Zhz, ↓Zia, ↓Zib, ↓Zic, ↓Zid, ↓Zie, ↓Zif, ↓Zig, ↓Zih, ↓Zii, ↓Zij, ↓Zik, ↓Zil, ↓Zim, ↓Zin, ↓Zio, ↓Ziq, ↓Zir, ↓Zis, ↓Zit, ↓Ziu, ↓Ziv, ↓Ziw, ↓Zix, ↓Ziy, ↓Ziz, ↓Zja, ↓Zjb, ↓Zjc, ↓Zjd, ↓Zje, ↓Zjf, ↓Zjg, ↓Zjh, ↓Zji, ↓Zjj, ↓Zjk, ↓Zjl, ↓Zjm, ↓Zjn, ↓Zjo, ↓Zjp, ↓Zjq, ↓Zjr, ↓Zjs, ↓Zjt, ↓Zju, ↓Zjv, ↓Zjw, ↓Zjx, ↓Zjy, ↓Zjz, ↓Zka, ↓Zkb, ↓Zkc, ↓Zkd, ↓Zke, ↓Zkf, ↓Zkg, ↓Zkh, ↓Zki, ↓Zkj, ↓Zkk, ↓Zkl, ↓Zkm, ↓Zkn, ↓Zko, ↓Zkp, ↓Zkq, ↓Zkr, ↓Zks, ↓Zkt, ↓Zku, ↓Zkv, ↓Zkw, ↓Zkx, ↓Zky, ↓Zkz, reduceIte, if_true, if_false, Bool.false_eq_true, Bool.and_true, Bool.true_and, Bool.and_false, Bool.false_and, Bool.or_true, Bool.true_or, Bool.or_false, Bool.false_or, Int.cast_ofNat_Int, Zla, Zlb, beq_self_eq_true, Int.reduceBEq, Int.reduceLT, Int.reduceLE, Int.reduceEq, Int.reduceNeg, Nat.reduceLT, Zlc, Zld, Zle, Zlf, Zlg, Zlh, Zli, Zlj, Zlk, Zll, Zlm, Zln, Zlo, Zlp, Zlq, Zlr, Zls, Zlt, Zlu, Zlv, Zlw, Zlx, Zly, Zlz, Zma, Zmb, Zmc, Zmd, Zme, Zmf, Zmg, Zmh, Zmi, Zmj, Zmk, Zml, Zmm, Zmn, Zmo, Zmp, Zmq, Zmr, Zms, Zmt, Zmu, Zmv, Zmw, Zmx, Zmy, Zmz, Zna, Znb, Znc, Znd, Zne, Znf, Zng, Znh, Zni, Znj, Znk, Znl, Znm, Znn, Zno, List.lookup_nil, Znp, Znq, Option.map_some, Option.map_none, Option.bind_some, Option.bind_none, List.map_nil, List.map_cons, List.nil_append, List.cons_append, List.append_nil, List.length_cons, List.length_nil, Nat.reduceAdd, Nat.reduceLeDiff, Nat.reduceEqDiff, Nat.reduceBEq, decide_true, decide_false, Bool.not_true, Bool.not_false, Znr, Zns, Znt, Znu, Znv, Znw, Znx, Zny, Znz, Zoa, Zob, Zoc, Zod, Zoe, List.getElem?_cons_zero, List.getElem?_cons_succ, Zof, Zog, Zoh, Zoi, Zoj, Zok, Zol, Zom, Zon, Zoo, Zop, Zoq, Zor, Zos, Zot, Zou, Zov, Zow, Zox, Zoy, setX, Zoz, Zpa, Zpb, Int.ofNat_lt, Int.ofNat_le, Zpc, Zpd, Zpe, Zpf, Zpg, Zph, q, bLen_s hl2, e1]
abbrev badT : D := .tup [.str malf, .non]
theorem told_b {d : D} (h : φ_check_word [.val d] = .ex ⟨1, []⟩ []) : φ_law_told_by [.val (.fn 1), .val (.tup [d])] = .ok (.d badT) [] := by
  have q : φ_border_lengths [.val d] = .ex ⟨1, []⟩ [] := by
    apply run_border_lengths
    unfold g_border_lengths
    simp -implicitDefEqProofs -dsimp only [↓Zaa, ↓Zab, ↓Zac, ↓Zad, ↓Zae, ↓Zaf, ↓Zag, ↓Zah, ↓Zai, ↓Zaj, ↓Zak, ↓Zal, ↓Zam, ↓Zan, ↓Zao, ↓Zap, ↓Zaq, ↓Zar, ↓Zas, ↓Zat, ↓Zau, ↓Zav, ↓Zaw, ↓Zax, ↓Zay, ↓Zaz, ↓Zba, ↓Zbb, ↓Zbc, ↓Zbd, ↓Zbe, ↓Zbf, ↓Zbg, ↓Zbh, ↓Zbi, ↓Zbj, ↓Zbk, ↓Zbl, ↓Zbm, ↓Zbn, ↓Zbo, ↓Zbp, ↓Zbq, ↓Zbr, ↓Zbs, ↓Zbt, ↓Zbu, ↓Zbv, ↓Zbw, ↓Zbx, ↓Zby, ↓Zbz, ↓Zca, ↓Zcb, ↓Zcc, ↓Zcd, ↓Zce, ↓Zcf, ↓Zcg, ↓Zch, ↓Zci, ↓Zcj, ↓Zck, ↓Zcl, ↓Zcm, ↓Zcn, ↓Zco, ↓Zcp, ↓Zcq, ↓Zcr, ↓Zcs, ↓Zct, ↓Zcu, ↓Zcv, ↓Zcw, ↓Zcx, ↓Zcy, ↓Zcz, ↓Zda, ↓Zdb, ↓Zdc, ↓Zdd, ↓Zde, ↓Zdf, ↓Zdg, ↓Zdh, ↓Zdi, ↓Zdj, ↓Zdk, ↓Zdl, ↓Zdm, ↓Zdn, ↓Zdo, ↓Zdp, ↓Zdq, ↓Zdr, ↓Zds, ↓Zdt, ↓Zdu, ↓Zdv, ↓Zdw, ↓Zdx, ↓Zdy, ↓Zdz, ↓Zea, ↓Zeb, ↓Zec, ↓Zed, ↓Zee, ↓Zef, ↓Zeg, ↓Zeh, ↓Zei, ↓Zej, ↓Zek, ↓Zel, ↓Zem, ↓Zen, ↓Zeo, ↓Zep, ↓Zeq, ↓Zer, ↓Zes, ↓Zet, ↓Zeu, ↓Zev, ↓Zew, ↓Zex, ↓Zey, ↓Zez, ↓Zfa, ↓Zfb, ↓Zfc, ↓Zfd, ↓Zfe, ↓Zff, ↓Zfg, ↓Zfh, ↓Zfi, ↓Zfj, ↓Zfk, ↓Zfl, ↓Zfm, ↓Zfn, ↓Zfo, ↓Zfp, ↓Zfq, ↓Zfr, ↓Zfs, ↓Zft, ↓Zfu, ↓Zfv, ↓Zfw, ↓Zfx, ↓Zfy, ↓Zfz, ↓Zga, ↓Zgb, ↓Zgc, ↓Zgd, ↓Zge, ↓Zgf, ↓Zgg, ↓Zgh, ↓Zgi, ↓Zgj, ↓Zgk, ↓Zgl, ↓Zgm, ↓Zgn, ↓Zgo, ↓Zgp, ↓Zgq, ↓Zgr, ↓Zgs, ↓Zgt, ↓Zgu, ↓Zgv, ↓Zgw, ↓Zgx, ↓Zgy, ↓Zgz, ↓Zha, ↓Zhb, ↓Zhc, ↓Zhd, ↓Zhe, ↓Zhf, ↓Zhg, ↓Zhh, ↓Zhi, ↓Zhj, ↓Zhk, ↓Zhl, ↓Zhm, ↓Zhn, ↓Zho, ↓Zhp, ↓Zhq, ↓Zhr, ↓Zhs, ↓Zht, ↓Zhu, ↓Zhv, ↓Zhw, ↓Zhx, ↓Zhy, ↓Zhz, ↓Zia, ↓Zib, ↓Zic, ↓Zid, ↓Zie, ↓Zif, ↓Zig, ↓Zih, ↓Zii, ↓Zij, ↓Zik, ↓Zil, ↓Zim, ↓Zin, ↓Zio, ↓Ziq, ↓Zir, ↓Zis, ↓Zit, ↓Ziu, ↓Ziv, ↓Ziw, ↓Zix, ↓Ziy, ↓Ziz, ↓Zja, ↓Zjb, ↓Zjc, ↓Zjd, ↓Zje, ↓Zjf, ↓Zjg, ↓Zjh, ↓Zji, ↓Zjj, ↓Zjk, ↓Zjl, ↓Zjm, ↓Zjn, ↓Zjo, ↓Zjp, ↓Zjq, ↓Zjr, ↓Zjs, ↓Zjt, ↓Zju, ↓Zjv, ↓Zjw, ↓Zjx, ↓Zjy, ↓Zjz, ↓Zka, ↓Zkb, ↓Zkc, ↓Zkd, ↓Zke, ↓Zkf, ↓Zkg, ↓Zkh, ↓Zki, ↓Zkj, ↓Zkk, ↓Zkl, ↓Zkm, ↓Zkn, ↓Zko, ↓Zkp, ↓Zkq, ↓Zkr, ↓Zks, ↓Zkt, ↓Zku, ↓Zkv, ↓Zkw, ↓Zkx, ↓Zky, ↓Zkz, reduceIte, if_true, if_false, Bool.false_eq_true, Bool.and_true, Bool.true_and, Bool.and_false, Bool.false_and, Bool.or_true, Bool.true_or, Bool.or_false, Bool.false_or, Int.cast_ofNat_Int, Zla, Zlb, beq_self_eq_true, Int.reduceBEq, Int.reduceLT, Int.reduceLE, Int.reduceEq, Int.reduceNeg, Nat.reduceLT, Zlc, Zld, Zle, Zlf, Zlg, Zlh, Zli, Zlj, Zlk, Zll, Zlm, Zln, Zlo, Zlp, Zlq, Zlr, Zls, Zlt, Zlu, Zlv, Zlw, Zlx, Zly, Zlz, Zma, Zmb, Zmc, Zmd, Zme, Zmf, Zmg, Zmh, Zmi, Zmj, Zmk, Zml, Zmm, Zmn, Zmo, Zmp, Zmq, Zmr, Zms, Zmt, Zmu, Zmv, Zmw, Zmx, Zmy, Zmz, Zna, Znb, Znc, Znd, Zne, Znf, Zng, Znh, Zni, Znj, Znk, Znl, Znm, Znn, Zno, List.lookup_nil, Znp, Znq, Option.map_some, Option.map_none, Option.bind_some, Option.bind_none, List.map_nil, List.map_cons, List.nil_append, List.cons_append, List.append_nil, List.length_cons, List.length_nil, Nat.reduceAdd, Nat.reduceLeDiff, Nat.reduceEqDiff, Nat.reduceBEq, decide_true, decide_false, Bool.not_true, Bool.not_false, Znr, Zns, Znt, Znu, Znv, Znw, Znx, Zny, Znz, Zoa, Zob, Zoc, Zod, Zoe, List.getElem?_cons_zero, List.getElem?_cons_succ, Zof, Zog, Zoh, Zoi, Zoj, Zok, Zol, Zom, Zon, Zoo, Zop, Zoq, Zor, Zos, Zot, Zou, Zov, Zow, Zox, Zoy, setX, Zoz, Zpa, Zpb, Int.ofNat_lt, Int.ofNat_le, Zpc, Zpd, Zpe, Zpf, Zpg, Zph, h]
  apply run_law_told_by
  unfold g_law_told_by
  simp -implicitDefEqProofs -dsimp only [↓Zaa, ↓Zab, ↓Zac, ↓Zad, ↓Zae, ↓Zaf, ↓Zag, ↓Zah, ↓Zai, ↓Zaj, ↓Zak, ↓Zal, ↓Zam, ↓Zan, ↓Zao, ↓Zap, ↓Zaq, ↓Zar, ↓Zas, ↓Zat, ↓Zau, ↓Zav, ↓Zaw, ↓Zax, ↓Zay, ↓Zaz, ↓Zba, ↓Zbb, ↓Zbc, ↓Zbd, ↓Zbe, ↓Zbf, ↓Zbg, ↓Zbh, ↓Zbi, ↓Zbj, ↓Zbk, ↓Zbl, ↓Zbm, ↓Zbn, ↓Zbo, ↓Zbp, ↓Zbq, ↓Zbr, ↓Zbs, ↓Zbt, ↓Zbu, ↓Zbv, ↓Zbw, ↓Zbx, ↓Zby, ↓Zbz, ↓Zca, ↓Zcb, ↓Zcc, ↓Zcd, ↓Zce, ↓Zcf, ↓Zcg, ↓Zch, ↓Zci, ↓Zcj, ↓Zck, ↓Zcl, ↓Zcm, ↓Zcn, ↓Zco, ↓Zcp, ↓Zcq, ↓Zcr, ↓Zcs, ↓Zct, ↓Zcu, ↓Zcv, ↓Zcw, ↓Zcx, ↓Zcy, ↓Zcz, ↓Zda, ↓Zdb, ↓Zdc, ↓Zdd, ↓Zde, ↓Zdf, ↓Zdg, ↓Zdh, ↓Zdi, ↓Zdj, ↓Zdk, ↓Zdl, ↓Zdm, ↓Zdn, ↓Zdo, ↓Zdp, ↓Zdq, ↓Zdr, ↓Zds, ↓Zdt, ↓Zdu, ↓Zdv, ↓Zdw, ↓Zdx, ↓Zdy, ↓Zdz, ↓Zea, ↓Zeb, ↓Zec, ↓Zed, ↓Zee, ↓Zef, ↓Zeg, ↓Zeh, ↓Zei, ↓Zej, ↓Zek, ↓Zel, ↓Zem, ↓Zen, ↓Zeo, ↓Zep, ↓Zeq, ↓Zer, ↓Zes, ↓Zet, ↓Zeu, ↓Zev, ↓Zew, ↓Zex, ↓Zey, ↓Zez, ↓Zfa, ↓Zfb, ↓Zfc, ↓Zfd, ↓Zfe, ↓Zff, ↓Zfg, ↓Zfh, ↓Zfi, ↓Zfj, ↓Zfk, ↓Zfl, ↓Zfm, ↓Zfn, ↓Zfo, ↓Zfp, ↓Zfq, ↓Zfr, ↓Zfs, ↓Zft, ↓Zfu, ↓Zfv, ↓Zfw, ↓Zfx, ↓Zfy, ↓Zfz, ↓Zga, ↓Zgb, ↓Zgc, ↓Zgd, ↓Zge, ↓Zgf, ↓Zgg, ↓Zgh, ↓Zgi, ↓Zgj, ↓Zgk, ↓Zgl, ↓Zgm, ↓Zgn, ↓Zgo, ↓Zgp, ↓Zgq, ↓Zgr, ↓Zgs, ↓Zgt, ↓Zgu, ↓Zgv, ↓Zgw, ↓Zgx, ↓Zgy, ↓Zgz, ↓Zha, ↓Zhb, ↓Zhc, ↓Zhd, ↓Zhe, ↓Zhf, ↓Zhg, ↓Zhh, ↓Zhi, ↓Zhj, ↓Zhk, ↓Zhl, ↓Zhm, ↓Zhn, ↓Zho, ↓Zhp, ↓Zhq, ↓Zhr, ↓Zhs, ↓Zht, ↓Zhu, ↓Zhv, ↓Zhw, ↓Zhx, ↓Zhy, ↓Zhz, ↓Zia, ↓Zib, ↓Zic, ↓Zid, ↓Zie, ↓Zif, ↓Zig, ↓Zih, ↓Zii, ↓Zij, ↓Zik, ↓Zil, ↓Zim, ↓Zin, ↓Zio, ↓Ziq, ↓Zir, ↓Zis, ↓Zit, ↓Ziu, ↓Ziv, ↓Ziw, ↓Zix, ↓Ziy, ↓Ziz, ↓Zja, ↓Zjb, ↓Zjc, ↓Zjd, ↓Zje, ↓Zjf, ↓Zjg, ↓Zjh, ↓Zji, ↓Zjj, ↓Zjk, ↓Zjl, ↓Zjm, ↓Zjn, ↓Zjo, ↓Zjp, ↓Zjq, ↓Zjr, ↓Zjs, ↓Zjt, ↓Zju, ↓Zjv, ↓Zjw, ↓Zjx, ↓Zjy, ↓Zjz, ↓Zka, ↓Zkb, ↓Zkc, ↓Zkd, ↓Zke, ↓Zkf, ↓Zkg, ↓Zkh, ↓Zki, ↓Zkj, ↓Zkk, ↓Zkl, ↓Zkm, ↓Zkn, ↓Zko, ↓Zkp, ↓Zkq, ↓Zkr, ↓Zks, ↓Zkt, ↓Zku, ↓Zkv, ↓Zkw, ↓Zkx, ↓Zky, ↓Zkz, reduceIte, if_true, if_false, Bool.false_eq_true, Bool.and_true, Bool.true_and, Bool.and_false, Bool.false_and, Bool.or_true, Bool.true_or, Bool.or_false, Bool.false_or, Int.cast_ofNat_Int, Zla, Zlb, beq_self_eq_true, Int.reduceBEq, Int.reduceLT, Int.reduceLE, Int.reduceEq, Int.reduceNeg, Nat.reduceLT, Zlc, Zld, Zle, Zlf, Zlg, Zlh, Zli, Zlj, Zlk, Zll, Zlm, Zln, Zlo, Zlp, Zlq, Zlr, Zls, Zlt, Zlu, Zlv, Zlw, Zlx, Zly, Zlz, Zma, Zmb, Zmc, Zmd, Zme, Zmf, Zmg, Zmh, Zmi, Zmj, Zmk, Zml, Zmm, Zmn, Zmo, Zmp, Zmq, Zmr, Zms, Zmt, Zmu, Zmv, Zmw, Zmx, Zmy, Zmz, Zna, Znb, Znc, Znd, Zne, Znf, Zng, Znh, Zni, Znj, Znk, Znl, Znm, Znn, Zno, List.lookup_nil, Znp, Znq, Option.map_some, Option.map_none, Option.bind_some, Option.bind_none, List.map_nil, List.map_cons, List.nil_append, List.cons_append, List.append_nil, List.length_cons, List.length_nil, Nat.reduceAdd, Nat.reduceLeDiff, Nat.reduceEqDiff, Nat.reduceBEq, decide_true, decide_false, Bool.not_true, Bool.not_false, Znr, Zns, Znt, Znu, Znv, Znw, Znx, Zny, Znz, Zoa, Zob, Zoc, Zod, Zoe, List.getElem?_cons_zero, List.getElem?_cons_succ, Zof, Zog, Zoh, Zoi, Zoj, Zok, Zol, Zom, Zon, Zoo, Zop, Zoq, Zor, Zos, Zot, Zou, Zov, Zow, Zox, Zoy, setX, Zoz, Zpa, Zpb, Int.ofNat_lt, Int.ofNat_le, Zpc, Zpd, Zpe, Zpf, Zpg, Zph, q]
  refine hs1_t (r := .rt (.d badT) [.val (.fn 1), .val (.tup [d]), .un]) rfl (fun a d => ?_) ?_
  · simp -implicitDefEqProofs -dsimp only [↓Zaa, ↓Zab, ↓Zac, ↓Zad, ↓Zae, ↓Zaf, ↓Zag, ↓Zah, ↓Zai, ↓Zaj, ↓Zak, ↓Zal, ↓Zam, ↓Zan, ↓Zao, ↓Zap, ↓Zaq, ↓Zar, ↓Zas, ↓Zat, ↓Zau, ↓Zav, ↓Zaw, ↓Zax, ↓Zay, ↓Zaz, ↓Zba, ↓Zbb, ↓Zbc, ↓Zbd, ↓Zbe, ↓Zbf, ↓Zbg, ↓Zbh, ↓Zbi, ↓Zbj, ↓Zbk, ↓Zbl, ↓Zbm, ↓Zbn, ↓Zbo, ↓Zbp, ↓Zbq, ↓Zbr, ↓Zbs, ↓Zbt, ↓Zbu, ↓Zbv, ↓Zbw, ↓Zbx, ↓Zby, ↓Zbz, ↓Zca, ↓Zcb, ↓Zcc, ↓Zcd, ↓Zce, ↓Zcf, ↓Zcg, ↓Zch, ↓Zci, ↓Zcj, ↓Zck, ↓Zcl, ↓Zcm, ↓Zcn, ↓Zco, ↓Zcp, ↓Zcq, ↓Zcr, ↓Zcs, ↓Zct, ↓Zcu, ↓Zcv, ↓Zcw, ↓Zcx, ↓Zcy, ↓Zcz, ↓Zda, ↓Zdb, ↓Zdc, ↓Zdd, ↓Zde, ↓Zdf, ↓Zdg, ↓Zdh, ↓Zdi, ↓Zdj, ↓Zdk, ↓Zdl, ↓Zdm, ↓Zdn, ↓Zdo, ↓Zdp, ↓Zdq, ↓Zdr, ↓Zds, ↓Zdt, ↓Zdu, ↓Zdv, ↓Zdw, ↓Zdx, ↓Zdy, ↓Zdz, ↓Zea, ↓Zeb, ↓Zec, ↓Zed, ↓Zee, ↓Zef, ↓Zeg, ↓Zeh, ↓Zei, ↓Zej, ↓Zek, ↓Zel, ↓Zem, ↓Zen, ↓Zeo, ↓Zep, ↓Zeq, ↓Zer, ↓Zes, ↓Zet, ↓Zeu, ↓Zev, ↓Zew, ↓Zex, ↓Zey, ↓Zez, ↓Zfa, ↓Zfb, ↓Zfc, ↓Zfd, ↓Zfe, ↓Zff, ↓Zfg, ↓Zfh, ↓Zfi, ↓Zfj, ↓Zfk, ↓Zfl, ↓Zfm, ↓Zfn, ↓Zfo, ↓Zfp, ↓Zfq, ↓Zfr, ↓Zfs, ↓Zft, ↓Zfu, ↓Zfv, ↓Zfw, ↓Zfx, ↓Zfy, ↓Zfz, ↓Zga, ↓Zgb, ↓Zgc, ↓Zgd, ↓Zge, ↓Zgf, ↓Zgg, ↓Zgh, ↓Zgi, ↓Zgj, ↓Zgk, ↓Zgl, ↓Zgm, ↓Zgn, ↓Zgo, ↓Zgp, ↓Zgq, ↓Zgr, ↓Zgs, ↓Zgt, ↓Zgu, ↓Zgv, ↓Zgw, ↓Zgx, ↓Zgy, ↓Zgz, ↓Zha, ↓Zhb, ↓Zhc, ↓Zhd, ↓Zhe, ↓Zhf, ↓Zhg, ↓Zhh, ↓Zhi, ↓Zhj, ↓Zhk, ↓Zhl, ↓Zhm, ↓Zhn, ↓Zho, ↓Zhp, ↓Zhq, ↓Zhr, ↓Zhs, ↓Zht, ↓Zhu, ↓Zhv, ↓Zhw, ↓Zhx, ↓Zhy, ↓Zhz, ↓Zia, ↓Zib, ↓Zic, ↓Zid, ↓Zie, ↓Zif, ↓Zig, ↓Zih, ↓Zii, ↓Zij, ↓Zik, ↓Zil, ↓Zim, ↓Zin, ↓Zio, ↓Ziq, ↓Zir, ↓Zis, ↓Zit, ↓Ziu, ↓Ziv, ↓Ziw, ↓Zix, ↓Ziy, ↓Ziz, ↓Zja, ↓Zjb, ↓Zjc, ↓Zjd, ↓Zje, ↓Zjf, ↓Zjg, ↓Zjh, ↓Zji, ↓Zjj, ↓Zjk, ↓Zjl, ↓Zjm, ↓Zjn, ↓Zjo, ↓Zjp, ↓Zjq, ↓Zjr, ↓Zjs, ↓Zjt, ↓Zju, ↓Zjv, ↓Zjw, ↓Zjx, ↓Zjy, ↓Zjz, ↓Zka, ↓Zkb, ↓Zkc, ↓Zkd, ↓Zke, ↓Zkf, ↓Zkg, ↓Zkh, ↓Zki, ↓Zkj, ↓Zkk, ↓Zkl, ↓Zkm, ↓Zkn, ↓Zko, ↓Zkp, ↓Zkq, ↓Zkr, ↓Zks, ↓Zkt, ↓Zku, ↓Zkv, ↓Zkw, ↓Zkx, ↓Zky, ↓Zkz, reduceIte, if_true, if_false, Bool.false_eq_true, Bool.and_true, Bool.true_and, Bool.and_false, Bool.false_and, Bool.or_true, Bool.true_or, Bool.or_false, Bool.false_or, Int.cast_ofNat_Int, Zla, Zlb, beq_self_eq_true, Int.reduceBEq, Int.reduceLT, Int.reduceLE, Int.reduceEq, Int.reduceNeg, Nat.reduceLT, Zlc, Zld, Zle, Zlf, Zlg, Zlh, Zli, Zlj, Zlk, Zll, Zlm, Zln, Zlo, Zlp, Zlq, Zlr, Zls, Zlt, Zlu, Zlv, Zlw, Zlx, Zly, Zlz, Zma, Zmb, Zmc, Zmd, Zme, Zmf, Zmg, Zmh, Zmi, Zmj, Zmk, Zml, Zmm, Zmn, Zmo, Zmp, Zmq, Zmr, Zms, Zmt, Zmu, Zmv, Zmw, Zmx, Zmy, Zmz, Zna, Znb, Znc, Znd, Zne, Znf, Zng, Znh, Zni, Znj, Znk, Znl, Znm, Znn, Zno, List.lookup_nil, Znp, Znq, Option.map_some, Option.map_none, Option.bind_some, Option.bind_none, List.map_nil, List.map_cons, List.nil_append, List.cons_append, List.append_nil, List.length_cons, List.length_nil, Nat.reduceAdd, Nat.reduceLeDiff, Nat.reduceEqDiff, Nat.reduceBEq, decide_true, decide_false, Bool.not_true, Bool.not_false, Znr, Zns, Znt, Znu, Znv, Znw, Znx, Zny, Znz, Zoa, Zob, Zoc, Zod, Zoe, List.getElem?_cons_zero, List.getElem?_cons_succ, Zof, Zog, Zoh, Zoi, Zoj, Zok, Zol, Zom, Zon, Zoo, Zop, Zoq, Zor, Zos, Zot, Zou, Zov, Zow, Zox, Zoy, setX, Zoz, Zpa, Zpb, Int.ofNat_lt, Int.ofNat_le, Zpc, Zpd, Zpe, Zpf, Zpg, Zph]
  simp -implicitDefEqProofs -dsimp only [↓Zaa, ↓Zab, ↓Zac, ↓Zad, ↓Zae, ↓Zaf, ↓Zag, ↓Zah, ↓Zai, ↓Zaj, ↓Zak, ↓Zal, ↓Zam, ↓Zan, ↓Zao, ↓Zap, ↓Zaq, ↓Zar, ↓Zas, ↓Zat, ↓Zau, ↓Zav, ↓Zaw, ↓Zax, ↓Zay, ↓Zaz, ↓Zba, ↓Zbb, ↓Zbc, ↓Zbd, ↓Zbe, ↓Zbf, ↓Zbg, ↓Zbh, ↓Zbi, ↓Zbj, ↓Zbk, ↓Zbl, ↓Zbm, ↓Zbn, ↓Zbo, ↓Zbp, ↓Zbq, ↓Zbr, ↓Zbs, ↓Zbt, ↓Zbu, ↓Zbv, ↓Zbw, ↓Zbx, ↓Zby, ↓Zbz, ↓Zca, ↓Zcb, ↓Zcc, ↓Zcd, ↓Zce, ↓Zcf, ↓Zcg, ↓Zch, ↓Zci, ↓Zcj, ↓Zck, ↓Zcl, ↓Zcm, ↓Zcn, ↓Zco, ↓Zcp, ↓Zcq, ↓Zcr, ↓Zcs, ↓Zct, ↓Zcu, ↓Zcv, ↓Zcw, ↓Zcx, ↓Zcy, ↓Zcz, ↓Zda, ↓Zdb, ↓Zdc, ↓Zdd, ↓Zde, ↓Zdf, ↓Zdg, ↓Zdh, ↓Zdi, ↓Zdj, ↓Zdk, ↓Zdl, ↓Zdm, ↓Zdn, ↓Zdo, ↓Zdp, ↓Zdq, ↓Zdr, ↓Zds, ↓Zdt, ↓Zdu, ↓Zdv, ↓Zdw, ↓Zdx, ↓Zdy, ↓Zdz, ↓Zea, ↓Zeb, ↓Zec, ↓Zed, ↓Zee, ↓Zef, ↓Zeg, ↓Zeh, ↓Zei, ↓Zej, ↓Zek, ↓Zel, ↓Zem, ↓Zen, ↓Zeo, ↓Zep, ↓Zeq, ↓Zer, ↓Zes, ↓Zet, ↓Zeu, ↓Zev, ↓Zew, ↓Zex, ↓Zey, ↓Zez, ↓Zfa, ↓Zfb, ↓Zfc, ↓Zfd, ↓Zfe, ↓Zff, ↓Zfg, ↓Zfh, ↓Zfi, ↓Zfj, ↓Zfk, ↓Zfl, ↓Zfm, ↓Zfn, ↓Zfo, ↓Zfp, ↓Zfq, ↓Zfr, ↓Zfs, ↓Zft, ↓Zfu, ↓Zfv, ↓Zfw, ↓Zfx, ↓Zfy, ↓Zfz, ↓Zga, ↓Zgb, ↓Zgc, ↓Zgd, ↓Zge, ↓Zgf, ↓Zgg, ↓Zgh, ↓Zgi, ↓Zgj, ↓Zgk, ↓Zgl, ↓Zgm, ↓Zgn, ↓Zgo, ↓Zgp, ↓Zgq, ↓Zgr, ↓Zgs, ↓Zgt, ↓Zgu, ↓Zgv, ↓Zgw, ↓Zgx, ↓Zgy, ↓Zgz, ↓Zha, ↓Zhb, ↓Zhc, ↓Zhd, ↓Zhe, ↓Zhf, ↓Zhg, ↓Zhh, ↓Zhi, ↓Zhj, ↓Zhk, ↓Zhl, ↓Zhm, ↓Zhn, ↓Zho, ↓Zhp, ↓Zhq, ↓Zhr, ↓Zhs, ↓Zht, ↓Zhu, ↓Zhv, ↓Zhw, ↓Zhx, ↓Zhy, ↓Zhz, ↓Zia, ↓Zib, ↓Zic, ↓Zid, ↓Zie, ↓Zif, ↓Zig, ↓Zih, ↓Zii, ↓Zij, ↓Zik, ↓Zil, ↓Zim, ↓Zin, ↓Zio, ↓Ziq, ↓Zir, ↓Zis, ↓Zit, ↓Ziu, ↓Ziv, ↓Ziw, ↓Zix, ↓Ziy, ↓Ziz, ↓Zja, ↓Zjb, ↓Zjc, ↓Zjd, ↓Zje, ↓Zjf, ↓Zjg, ↓Zjh, ↓Zji, ↓Zjj, ↓Zjk, ↓Zjl, ↓Zjm, ↓Zjn, ↓Zjo, ↓Zjp, ↓Zjq, ↓Zjr, ↓Zjs, ↓Zjt, ↓Zju, ↓Zjv, ↓Zjw, ↓Zjx, ↓Zjy, ↓Zjz, ↓Zka, ↓Zkb, ↓Zkc, ↓Zkd, ↓Zke, ↓Zkf, ↓Zkg, ↓Zkh, ↓Zki, ↓Zkj, ↓Zkk, ↓Zkl, ↓Zkm, ↓Zkn, ↓Zko, ↓Zkp, ↓Zkq, ↓Zkr, ↓Zks, ↓Zkt, ↓Zku, ↓Zkv, ↓Zkw, ↓Zkx, ↓Zky, ↓Zkz, reduceIte, if_true, if_false, Bool.false_eq_true, Bool.and_true, Bool.true_and, Bool.and_false, Bool.false_and, Bool.or_true, Bool.true_or, Bool.or_false, Bool.false_or, Int.cast_ofNat_Int, Zla, Zlb, beq_self_eq_true, Int.reduceBEq, Int.reduceLT, Int.reduceLE, Int.reduceEq, Int.reduceNeg, Nat.reduceLT, Zlc, Zld, Zle, Zlf, Zlg, Zlh, Zli, Zlj, Zlk, Zll, Zlm, Zln, Zlo, Zlp, Zlq, Zlr, Zls, Zlt, Zlu, Zlv, Zlw, Zlx, Zly, Zlz, Zma, Zmb, Zmc, Zmd, Zme, Zmf, Zmg, Zmh, Zmi, Zmj, Zmk, Zml, Zmm, Zmn, Zmo, Zmp, Zmq, Zmr, Zms, Zmt, Zmu, Zmv, Zmw, Zmx, Zmy, Zmz, Zna, Znb, Znc, Znd, Zne, Znf, Zng, Znh, Zni, Znj, Znk, Znl, Znm, Znn, Zno, List.lookup_nil, Znp, Znq, Option.map_some, Option.map_none, Option.bind_some, Option.bind_none, List.map_nil, List.map_cons, List.nil_append, List.cons_append, List.append_nil, List.length_cons, List.length_nil, Nat.reduceAdd, Nat.reduceLeDiff, Nat.reduceEqDiff, Nat.reduceBEq, decide_true, decide_false, Bool.not_true, Bool.not_false, Znr, Zns, Znt, Znu, Znv, Znw, Znx, Zny, Znz, Zoa, Zob, Zoc, Zod, Zoe, List.getElem?_cons_zero, List.getElem?_cons_succ, Zof, Zog, Zoh, Zoi, Zoj, Zok, Zol, Zom, Zon, Zoo, Zop, Zoq, Zor, Zos, Zot, Zou, Zov, Zow, Zox, Zoy, setX, Zoz, Zpa, Zpb, Int.ofNat_lt, Int.ofNat_le, Zpc, Zpd, Zpe, Zpf, Zpg, Zph]
theorem told_p {d : D} (h : φ_check_word [.val d] = .ex ⟨1, []⟩ []) : φ_law_told_by [.val (.fn 0), .val (.tup [d])] = .ok (.d badT) [] := by
  have q : φ_periods [.val d] = .ex ⟨1, []⟩ [] := by
    apply run_periods
    unfold g_periods
    simp -implicitDefEqProofs -dsimp only [↓Zaa, ↓Zab, ↓Zac, ↓Zad, ↓Zae, ↓Zaf, ↓Zag, ↓Zah, ↓Zai, ↓Zaj, ↓Zak, ↓Zal, ↓Zam, ↓Zan, ↓Zao, ↓Zap, ↓Zaq, ↓Zar, ↓Zas, ↓Zat, ↓Zau, ↓Zav, ↓Zaw, ↓Zax, ↓Zay, ↓Zaz, ↓Zba, ↓Zbb, ↓Zbc, ↓Zbd, ↓Zbe, ↓Zbf, ↓Zbg, ↓Zbh, ↓Zbi, ↓Zbj, ↓Zbk, ↓Zbl, ↓Zbm, ↓Zbn, ↓Zbo, ↓Zbp, ↓Zbq, ↓Zbr, ↓Zbs, ↓Zbt, ↓Zbu, ↓Zbv, ↓Zbw, ↓Zbx, ↓Zby, ↓Zbz, ↓Zca, ↓Zcb, ↓Zcc, ↓Zcd, ↓Zce, ↓Zcf, ↓Zcg, ↓Zch, ↓Zci, ↓Zcj, ↓Zck, ↓Zcl, ↓Zcm, ↓Zcn, ↓Zco, ↓Zcp, ↓Zcq, ↓Zcr, ↓Zcs, ↓Zct, ↓Zcu, ↓Zcv, ↓Zcw, ↓Zcx, ↓Zcy, ↓Zcz, ↓Zda, ↓Zdb, ↓Zdc, ↓Zdd, ↓Zde, ↓Zdf, ↓Zdg, ↓Zdh, ↓Zdi, ↓Zdj, ↓Zdk, ↓Zdl, ↓Zdm, ↓Zdn, ↓Zdo, ↓Zdp, ↓Zdq, ↓Zdr, ↓Zds, ↓Zdt, ↓Zdu, ↓Zdv, ↓Zdw, ↓Zdx, ↓Zdy, ↓Zdz, ↓Zea, ↓Zeb, ↓Zec, ↓Zed, ↓Zee, ↓Zef, ↓Zeg, ↓Zeh, ↓Zei, ↓Zej, ↓Zek, ↓Zel, ↓Zem, ↓Zen, ↓Zeo, ↓Zep, ↓Zeq, ↓Zer, ↓Zes, ↓Zet, ↓Zeu, ↓Zev, ↓Zew, ↓Zex, ↓Zey, ↓Zez, ↓Zfa, ↓Zfb, ↓Zfc, ↓Zfd, ↓Zfe, ↓Zff, ↓Zfg, ↓Zfh, ↓Zfi, ↓Zfj, ↓Zfk, ↓Zfl, ↓Zfm, ↓Zfn, ↓Zfo, ↓Zfp, ↓Zfq, ↓Zfr, ↓Zfs, ↓Zft, ↓Zfu, ↓Zfv, ↓Zfw, ↓Zfx, ↓Zfy, ↓Zfz, ↓Zga, ↓Zgb, ↓Zgc, ↓Zgd, ↓Zge, ↓Zgf, ↓Zgg, ↓Zgh, ↓Zgi, ↓Zgj, ↓Zgk, ↓Zgl, ↓Zgm, ↓Zgn, ↓Zgo, ↓Zgp, ↓Zgq, ↓Zgr, ↓Zgs, ↓Zgt, ↓Zgu, ↓Zgv, ↓Zgw, ↓Zgx, ↓Zgy, ↓Zgz, ↓Zha, ↓Zhb, ↓Zhc, ↓Zhd, ↓Zhe, ↓Zhf, ↓Zhg, ↓Zhh, ↓Zhi, ↓Zhj, ↓Zhk, ↓Zhl, ↓Zhm, ↓Zhn, ↓Zho, ↓Zhp, ↓Zhq, ↓Zhr, ↓Zhs, ↓Zht, ↓Zhu, ↓Zhv, ↓Zhw, ↓Zhx, ↓Zhy, ↓Zhz, ↓Zia, ↓Zib, ↓Zic, ↓Zid, ↓Zie, ↓Zif, ↓Zig, ↓Zih, ↓Zii, ↓Zij, ↓Zik, ↓Zil, ↓Zim, ↓Zin, ↓Zio, ↓Ziq, ↓Zir, ↓Zis, ↓Zit, ↓Ziu, ↓Ziv, ↓Ziw, ↓Zix, ↓Ziy, ↓Ziz, ↓Zja, ↓Zjb, ↓Zjc, ↓Zjd, ↓Zje, ↓Zjf, ↓Zjg, ↓Zjh, ↓Zji, ↓Zjj, ↓Zjk, ↓Zjl, ↓Zjm, ↓Zjn, ↓Zjo, ↓Zjp, ↓Zjq, ↓Zjr, ↓Zjs, ↓Zjt, ↓Zju, ↓Zjv, ↓Zjw, ↓Zjx, ↓Zjy, ↓Zjz, ↓Zka, ↓Zkb, ↓Zkc, ↓Zkd, ↓Zke, ↓Zkf, ↓Zkg, ↓Zkh, ↓Zki, ↓Zkj, ↓Zkk, ↓Zkl, ↓Zkm, ↓Zkn, ↓Zko, ↓Zkp, ↓Zkq, ↓Zkr, ↓Zks, ↓Zkt, ↓Zku, ↓Zkv, ↓Zkw, ↓Zkx, ↓Zky, ↓Zkz, reduceIte, if_true, if_false, Bool.false_eq_true, Bool.and_true, Bool.true_and, Bool.and_false, Bool.false_and, Bool.or_true, Bool.true_or, Bool.or_false, Bool.false_or, Int.cast_ofNat_Int, Zla, Zlb, beq_self_eq_true, Int.reduceBEq, Int.reduceLT, Int.reduceLE, Int.reduceEq, Int.reduceNeg, Nat.reduceLT, Zlc, Zld, Zle, Zlf, Zlg, Zlh, Zli, Zlj, Zlk, Zll, Zlm, Zln, Zlo, Zlp, Zlq, Zlr, Zls, Zlt, Zlu, Zlv, Zlw, Zlx, Zly, Zlz, Zma, Zmb, Zmc, Zmd, Zme, Zmf, Zmg, Zmh, Zmi, Zmj, Zmk, Zml, Zmm, Zmn, Zmo, Zmp, Zmq, Zmr, Zms, Zmt, Zmu, Zmv, Zmw, Zmx, Zmy, Zmz, Zna, Znb, Znc, Znd, Zne, Znf, Zng, Znh, Zni, Znj, Znk, Znl, Znm, Znn, Zno, List.lookup_nil, Znp, Znq, Option.map_some, Option.map_none, Option.bind_some, Option.bind_none, List.map_nil, List.map_cons, List.nil_append, List.cons_append, List.append_nil, List.length_cons, List.length_nil, Nat.reduceAdd, Nat.reduceLeDiff, Nat.reduceEqDiff, Nat.reduceBEq, decide_true, decide_false, Bool.not_true, Bool.not_false, Znr, Zns, Znt, Znu, Znv, Znw, Znx, Zny, Znz, Zoa, Zob, Zoc, Zod, Zoe, List.getElem?_cons_zero, List.getElem?_cons_succ, Zof, Zog, Zoh, Zoi, Zoj, Zok, Zol, Zom, Zon, Zoo, Zop, Zoq, Zor, Zos, Zot, Zou, Zov, Zow, Zox, Zoy, setX, Zoz, Zpa, Zpb, Int.ofNat_lt, Int.ofNat_le, Zpc, Zpd, Zpe, Zpf, Zpg, Zph, h]
  apply run_law_told_by
  unfold g_law_told_by
  simp -implicitDefEqProofs -dsimp only [↓Zaa, ↓Zab, ↓Zac, ↓Zad, ↓Zae, ↓Zaf, ↓Zag, ↓Zah, ↓Zai, ↓Zaj, ↓Zak, ↓Zal, ↓Zam, ↓Zan, ↓Zao, ↓Zap, ↓Zaq, ↓Zar, ↓Zas, ↓Zat, ↓Zau, ↓Zav, ↓Zaw, ↓Zax, ↓Zay, ↓Zaz, ↓Zba, ↓Zbb, ↓Zbc, ↓Zbd, ↓Zbe, ↓Zbf, ↓Zbg, ↓Zbh, ↓Zbi, ↓Zbj, ↓Zbk, ↓Zbl, ↓Zbm, ↓Zbn, ↓Zbo, ↓Zbp, ↓Zbq, ↓Zbr, ↓Zbs, ↓Zbt, ↓Zbu, ↓Zbv, ↓Zbw, ↓Zbx, ↓Zby, ↓Zbz, ↓Zca, ↓Zcb, ↓Zcc, ↓Zcd, ↓Zce, ↓Zcf, ↓Zcg, ↓Zch, ↓Zci, ↓Zcj, ↓Zck, ↓Zcl, ↓Zcm, ↓Zcn, ↓Zco, ↓Zcp, ↓Zcq, ↓Zcr, ↓Zcs, ↓Zct, ↓Zcu, ↓Zcv, ↓Zcw, ↓Zcx, ↓Zcy, ↓Zcz, ↓Zda, ↓Zdb, ↓Zdc, ↓Zdd, ↓Zde, ↓Zdf, ↓Zdg, ↓Zdh, ↓Zdi, ↓Zdj, ↓Zdk, ↓Zdl, ↓Zdm, ↓Zdn, ↓Zdo, ↓Zdp, ↓Zdq, ↓Zdr, ↓Zds, ↓Zdt, ↓Zdu, ↓Zdv, ↓Zdw, ↓Zdx, ↓Zdy, ↓Zdz, ↓Zea, ↓Zeb, ↓Zec, ↓Zed, ↓Zee, ↓Zef, ↓Zeg, ↓Zeh, ↓Zei, ↓Zej, ↓Zek, ↓Zel, ↓Zem, ↓Zen, ↓Zeo, ↓Zep, ↓Zeq, ↓Zer, ↓Zes, ↓Zet, ↓Zeu, ↓Zev, ↓Zew, ↓Zex, ↓Zey, ↓Zez, ↓Zfa, ↓Zfb, ↓Zfc, ↓Zfd, ↓Zfe, ↓Zff, ↓Zfg, ↓Zfh, ↓Zfi, ↓Zfj, ↓Zfk, ↓Zfl, ↓Zfm, ↓Zfn, ↓Zfo, ↓Zfp, ↓Zfq, ↓Zfr, ↓Zfs, ↓Zft, ↓Zfu, ↓Zfv, ↓Zfw, ↓Zfx, ↓Zfy, ↓Zfz, ↓Zga, ↓Zgb, ↓Zgc, ↓Zgd, ↓Zge, ↓Zgf, ↓Zgg, ↓Zgh, ↓Zgi, ↓Zgj, ↓Zgk, ↓Zgl, ↓Zgm, ↓Zgn, ↓Zgo, ↓Zgp, ↓Zgq, ↓Zgr, ↓Zgs, ↓Zgt, ↓Zgu, ↓Zgv, ↓Zgw, ↓Zgx, ↓Zgy, ↓Zgz, ↓Zha, ↓Zhb, ↓Zhc, ↓Zhd, ↓Zhe, ↓Zhf, ↓Zhg, ↓Zhh, ↓Zhi, ↓Zhj, ↓Zhk, ↓Zhl, ↓Zhm, ↓Zhn, ↓Zho, ↓Zhp, ↓Zhq, ↓Zhr, ↓Zhs, ↓Zht, ↓Zhu, ↓Zhv, ↓Zhw, ↓Zhx, ↓Zhy, ↓Zhz, ↓Zia, ↓Zib, ↓Zic, ↓Zid, ↓Zie, ↓Zif, ↓Zig, ↓Zih, ↓Zii, ↓Zij, ↓Zik, ↓Zil, ↓Zim, ↓Zin, ↓Zio, ↓Ziq, ↓Zir, ↓Zis, ↓Zit, ↓Ziu, ↓Ziv, ↓Ziw, ↓Zix, ↓Ziy, ↓Ziz, ↓Zja, ↓Zjb, ↓Zjc, ↓Zjd, ↓Zje, ↓Zjf, ↓Zjg, ↓Zjh, ↓Zji, ↓Zjj, ↓Zjk, ↓Zjl, ↓Zjm, ↓Zjn, ↓Zjo, ↓Zjp, ↓Zjq, ↓Zjr, ↓Zjs, ↓Zjt, ↓Zju, ↓Zjv, ↓Zjw, ↓Zjx, ↓Zjy, ↓Zjz, ↓Zka, ↓Zkb, ↓Zkc, ↓Zkd, ↓Zke, ↓Zkf, ↓Zkg, ↓Zkh, ↓Zki, ↓Zkj, ↓Zkk, ↓Zkl, ↓Zkm, ↓Zkn, ↓Zko, ↓Zkp, ↓Zkq, ↓Zkr, ↓Zks, ↓Zkt, ↓Zku, ↓Zkv, ↓Zkw, ↓Zkx, ↓Zky, ↓Zkz, reduceIte, if_true, if_false, Bool.false_eq_true, Bool.and_true, Bool.true_and, Bool.and_false, Bool.false_and, Bool.or_true, Bool.true_or, Bool.or_false, Bool.false_or, Int.cast_ofNat_Int, Zla, Zlb, beq_self_eq_true, Int.reduceBEq, Int.reduceLT, Int.reduceLE, Int.reduceEq, Int.reduceNeg, Nat.reduceLT, Zlc, Zld, Zle, Zlf, Zlg, Zlh, Zli, Zlj, Zlk, Zll, Zlm, Zln, Zlo, Zlp, Zlq, Zlr, Zls, Zlt, Zlu, Zlv, Zlw, Zlx, Zly, Zlz, Zma, Zmb, Zmc, Zmd, Zme, Zmf, Zmg, Zmh, Zmi, Zmj, Zmk, Zml, Zmm, Zmn, Zmo, Zmp, Zmq, Zmr, Zms, Zmt, Zmu, Zmv, Zmw, Zmx, Zmy, Zmz, Zna, Znb, Znc, Znd, Zne, Znf, Zng, Znh, Zni, Znj, Znk, Znl, Znm, Znn, Zno, List.lookup_nil, Znp, Znq, Option.map_some, Option.map_none, Option.bind_some, Option.bind_none, List.map_nil, List.map_cons, List.nil_append, List.cons_append, List.append_nil, List.length_cons, List.length_nil, Nat.reduceAdd, Nat.reduceLeDiff, Nat.reduceEqDiff, Nat.reduceBEq, decide_true, decide_false, Bool.not_true, Bool.not_false, Znr, Zns, Znt, Znu, Znv, Znw, Znx, Zny, Znz, Zoa, Zob, Zoc, Zod, Zoe, List.getElem?_cons_zero, List.getElem?_cons_succ, Zof, Zog, Zoh, Zoi, Zoj, Zok, Zol, Zom, Zon, Zoo, Zop, Zoq, Zor, Zos, Zot, Zou, Zov, Zow, Zox, Zoy, setX, Zoz, Zpa, Zpb, Int.ofNat_lt, Int.ofNat_le, Zpc, Zpd, Zpe, Zpf, Zpg, Zph, q]
  refine hs1_t (r := .rt (.d badT) [.val (.fn 0), .val (.tup [d]), .un]) rfl (fun a d => ?_) ?_
  · simp -implicitDefEqProofs -dsimp only [↓Zaa, ↓Zab, ↓Zac, ↓Zad, ↓Zae, ↓Zaf, ↓Zag, ↓Zah, ↓Zai, ↓Zaj, ↓Zak, ↓Zal, ↓Zam, ↓Zan, ↓Zao, ↓Zap, ↓Zaq, ↓Zar, ↓Zas, ↓Zat, ↓Zau, ↓Zav, ↓Zaw, ↓Zax, ↓Zay, ↓Zaz, ↓Zba, ↓Zbb, ↓Zbc, ↓Zbd, ↓Zbe, ↓Zbf, ↓Zbg, ↓Zbh, ↓Zbi, ↓Zbj, ↓Zbk, ↓Zbl, ↓Zbm, ↓Zbn, ↓Zbo, ↓Zbp, ↓Zbq, ↓Zbr, ↓Zbs, ↓Zbt, ↓Zbu, ↓Zbv, ↓Zbw, ↓Zbx, ↓Zby, ↓Zbz, ↓Zca, ↓Zcb, ↓Zcc, ↓Zcd, ↓Zce, ↓Zcf, ↓Zcg, ↓Zch, ↓Zci, ↓Zcj, ↓Zck, ↓Zcl, ↓Zcm, ↓Zcn, ↓Zco, ↓Zcp, ↓Zcq, ↓Zcr, ↓Zcs, ↓Zct, ↓Zcu, ↓Zcv, ↓Zcw, ↓Zcx, ↓Zcy, ↓Zcz, ↓Zda, ↓Zdb, ↓Zdc, ↓Zdd, ↓Zde, ↓Zdf, ↓Zdg, ↓Zdh, ↓Zdi, ↓Zdj, ↓Zdk, ↓Zdl, ↓Zdm, ↓Zdn, ↓Zdo, ↓Zdp, ↓Zdq, ↓Zdr, ↓Zds, ↓Zdt, ↓Zdu, ↓Zdv, ↓Zdw, ↓Zdx, ↓Zdy, ↓Zdz, ↓Zea, ↓Zeb, ↓Zec, ↓Zed, ↓Zee, ↓Zef, ↓Zeg, ↓Zeh, ↓Zei, ↓Zej, ↓Zek, ↓Zel, ↓Zem, ↓Zen, ↓Zeo, ↓Zep, ↓Zeq, ↓Zer, ↓Zes, ↓Zet, ↓Zeu, ↓Zev, ↓Zew, ↓Zex, ↓Zey, ↓Zez, ↓Zfa, ↓Zfb, ↓Zfc, ↓Zfd, ↓Zfe, ↓Zff, ↓Zfg, ↓Zfh, ↓Zfi, ↓Zfj, ↓Zfk, ↓Zfl, ↓Zfm, ↓Zfn, ↓Zfo, ↓Zfp, ↓Zfq, ↓Zfr, ↓Zfs, ↓Zft, ↓Zfu, ↓Zfv, ↓Zfw, ↓Zfx, ↓Zfy, ↓Zfz, ↓Zga, ↓Zgb, ↓Zgc, ↓Zgd, ↓Zge, ↓Zgf, ↓Zgg, ↓Zgh, ↓Zgi, ↓Zgj, ↓Zgk, ↓Zgl, ↓Zgm, ↓Zgn, ↓Zgo, ↓Zgp, ↓Zgq, ↓Zgr, ↓Zgs, ↓Zgt, ↓Zgu, ↓Zgv, ↓Zgw, ↓Zgx, ↓Zgy, ↓Zgz, ↓Zha, ↓Zhb, ↓Zhc, ↓Zhd, ↓Zhe, ↓Zhf, ↓Zhg, ↓Zhh, ↓Zhi, ↓Zhj, ↓Zhk, ↓Zhl, ↓Zhm, ↓Zhn, ↓Zho, ↓Zhp, ↓Zhq, ↓Zhr, ↓Zhs, ↓Zht, ↓Zhu, ↓Zhv, ↓Zhw, ↓Zhx, ↓Zhy, ↓Zhz, ↓Zia, ↓Zib, ↓Zic, ↓Zid, ↓Zie, ↓Zif, ↓Zig, ↓Zih, ↓Zii, ↓Zij, ↓Zik, ↓Zil, ↓Zim, ↓Zin, ↓Zio, ↓Ziq, ↓Zir, ↓Zis, ↓Zit, ↓Ziu, ↓Ziv, ↓Ziw, ↓Zix, ↓Ziy, ↓Ziz, ↓Zja, ↓Zjb, ↓Zjc, ↓Zjd, ↓Zje, ↓Zjf, ↓Zjg, ↓Zjh, ↓Zji, ↓Zjj, ↓Zjk, ↓Zjl, ↓Zjm, ↓Zjn, ↓Zjo, ↓Zjp, ↓Zjq, ↓Zjr, ↓Zjs, ↓Zjt, ↓Zju, ↓Zjv, ↓Zjw, ↓Zjx, ↓Zjy, ↓Zjz, ↓Zka, ↓Zkb, ↓Zkc, ↓Zkd, ↓Zke, ↓Zkf, ↓Zkg, ↓Zkh, ↓Zki, ↓Zkj, ↓Zkk, ↓Zkl, ↓Zkm, ↓Zkn, ↓Zko, ↓Zkp, ↓Zkq, ↓Zkr, ↓Zks, ↓Zkt, ↓Zku, ↓Zkv, ↓Zkw, ↓Zkx, ↓Zky, ↓Zkz, reduceIte, if_true, if_false, Bool.false_eq_true, Bool.and_true, Bool.true_and, Bool.and_false, Bool.false_and, Bool.or_true, Bool.true_or, Bool.or_false, Bool.false_or, Int.cast_ofNat_Int, Zla, Zlb, beq_self_eq_true, Int.reduceBEq, Int.reduceLT, Int.reduceLE, Int.reduceEq, Int.reduceNeg, Nat.reduceLT, Zlc, Zld, Zle, Zlf, Zlg, Zlh, Zli, Zlj, Zlk, Zll, Zlm, Zln, Zlo, Zlp, Zlq, Zlr, Zls, Zlt, Zlu, Zlv, Zlw, Zlx, Zly, Zlz, Zma, Zmb, Zmc, Zmd, Zme, Zmf, Zmg, Zmh, Zmi, Zmj, Zmk, Zml, Zmm, Zmn, Zmo, Zmp, Zmq, Zmr, Zms, Zmt, Zmu, Zmv, Zmw, Zmx, Zmy, Zmz, Zna, Znb, Znc, Znd, Zne, Znf, Zng, Znh, Zni, Znj, Znk, Znl, Znm, Znn, Zno, List.lookup_nil, Znp, Znq, Option.map_some, Option.map_none, Option.bind_some, Option.bind_none, List.map_nil, List.map_cons, List.nil_append, List.cons_append, List.append_nil, List.length_cons, List.length_nil, Nat.reduceAdd, Nat.reduceLeDiff, Nat.reduceEqDiff, Nat.reduceBEq, decide_true, decide_false, Bool.not_true, Bool.not_false, Znr, Zns, Znt, Znu, Znv, Znw, Znx, Zny, Znz, Zoa, Zob, Zoc, Zod, Zoe, List.getElem?_cons_zero, List.getElem?_cons_succ, Zof, Zog, Zoh, Zoi, Zoj, Zok, Zol, Zom, Zon, Zoo, Zop, Zoq, Zor, Zos, Zot, Zou, Zov, Zow, Zox, Zoy, setX, Zoz, Zpa, Zpb, Int.ofNat_lt, Int.ofNat_le, Zpc, Zpd, Zpe, Zpf, Zpg, Zph]
  simp -implicitDefEqProofs -dsimp only [↓Zaa, ↓Zab, ↓Zac, ↓Zad, ↓Zae, ↓Zaf, ↓Zag, ↓Zah, ↓Zai, ↓Zaj, ↓Zak, ↓Zal, ↓Zam, ↓Zan, ↓Zao, ↓Zap, ↓Zaq, ↓Zar, ↓Zas, ↓Zat, ↓Zau, ↓Zav, ↓Zaw, ↓Zax, ↓Zay, ↓Zaz, ↓Zba, ↓Zbb, ↓Zbc, ↓Zbd, ↓Zbe, ↓Zbf, ↓Zbg, ↓Zbh, ↓Zbi, ↓Zbj, ↓Zbk, ↓Zbl, ↓Zbm, ↓Zbn, ↓Zbo, ↓Zbp, ↓Zbq, ↓Zbr, ↓Zbs, ↓Zbt, ↓Zbu, ↓Zbv, ↓Zbw, ↓Zbx, ↓Zby, ↓Zbz, ↓Zca, ↓Zcb, ↓Zcc, ↓Zcd, ↓Zce, ↓Zcf, ↓Zcg, ↓Zch, ↓Zci, ↓Zcj, ↓Zck, ↓Zcl, ↓Zcm, ↓Zcn, ↓Zco, ↓Zcp, ↓Zcq, ↓Zcr, ↓Zcs, ↓Zct, ↓Zcu, ↓Zcv, ↓Zcw, ↓Zcx, ↓Zcy, ↓Zcz, ↓Zda, ↓Zdb, ↓Zdc, ↓Zdd, ↓Zde, ↓Zdf, ↓Zdg, ↓Zdh, ↓Zdi, ↓Zdj, ↓Zdk, ↓Zdl, ↓Zdm, ↓Zdn, ↓Zdo, ↓Zdp, ↓Zdq, ↓Zdr, ↓Zds, ↓Zdt, ↓Zdu, ↓Zdv, ↓Zdw, ↓Zdx, ↓Zdy, ↓Zdz, ↓Zea, ↓Zeb, ↓Zec, ↓Zed, ↓Zee, ↓Zef, ↓Zeg, ↓Zeh, ↓Zei, ↓Zej, ↓Zek, ↓Zel, ↓Zem, ↓Zen, ↓Zeo, ↓Zep, ↓Zeq, ↓Zer, ↓Zes, ↓Zet, ↓Zeu, ↓Zev, ↓Zew, ↓Zex, ↓Zey, ↓Zez, ↓Zfa, ↓Zfb, ↓Zfc, ↓Zfd, ↓Zfe, ↓Zff, ↓Zfg, ↓Zfh, ↓Zfi, ↓Zfj, ↓Zfk, ↓Zfl, ↓Zfm, ↓Zfn, ↓Zfo, ↓Zfp, ↓Zfq, ↓Zfr, ↓Zfs, ↓Zft, ↓Zfu, ↓Zfv, ↓Zfw, ↓Zfx, ↓Zfy, ↓Zfz, ↓Zga, ↓Zgb, ↓Zgc, ↓Zgd, ↓Zge, ↓Zgf, ↓Zgg, ↓Zgh, ↓Zgi, ↓Zgj, ↓Zgk, ↓Zgl, ↓Zgm, ↓Zgn, ↓Zgo, ↓Zgp, ↓Zgq, ↓Zgr, ↓Zgs, ↓Zgt, ↓Zgu, ↓Zgv, ↓Zgw, ↓Zgx, ↓Zgy, ↓Zgz, ↓Zha, ↓Zhb, ↓Zhc, ↓Zhd, ↓Zhe, ↓Zhf, ↓Zhg, ↓Zhh, ↓Zhi, ↓Zhj, ↓Zhk, ↓Zhl, ↓Zhm, ↓Zhn, ↓Zho, ↓Zhp, ↓Zhq, ↓Zhr, ↓Zhs, ↓Zht, ↓Zhu, ↓Zhv, ↓Zhw, ↓Zhx, ↓Zhy, ↓Zhz, ↓Zia, ↓Zib, ↓Zic, ↓Zid, ↓Zie, ↓Zif, ↓Zig, ↓Zih, ↓Zii, ↓Zij, ↓Zik, ↓Zil, ↓Zim, ↓Zin, ↓Zio, ↓Ziq, ↓Zir, ↓Zis, ↓Zit, ↓Ziu, ↓Ziv, ↓Ziw, ↓Zix, ↓Ziy, ↓Ziz, ↓Zja, ↓Zjb, ↓Zjc, ↓Zjd, ↓Zje, ↓Zjf, ↓Zjg, ↓Zjh, ↓Zji, ↓Zjj, ↓Zjk, ↓Zjl, ↓Zjm, ↓Zjn, ↓Zjo, ↓Zjp, ↓Zjq, ↓Zjr, ↓Zjs, ↓Zjt, ↓Zju, ↓Zjv, ↓Zjw, ↓Zjx, ↓Zjy, ↓Zjz, ↓Zka, ↓Zkb, ↓Zkc, ↓Zkd, ↓Zke, ↓Zkf, ↓Zkg, ↓Zkh, ↓Zki, ↓Zkj, ↓Zkk, ↓Zkl, ↓Zkm, ↓Zkn, ↓Zko, ↓Zkp, ↓Zkq, ↓Zkr, ↓Zks, ↓Zkt, ↓Zku, ↓Zkv, ↓Zkw, ↓Zkx, ↓Zky, ↓Zkz, reduceIte, if_true, if_false, Bool.false_eq_true, Bool.and_true, Bool.true_and, Bool.and_false, Bool.false_and, Bool.or_true, Bool.true_or, Bool.or_false, Bool.false_or, Int.cast_ofNat_Int, Zla, Zlb, beq_self_eq_true, Int.reduceBEq, Int.reduceLT, Int.reduceLE, Int.reduceEq, Int.reduceNeg, Nat.reduceLT, Zlc, Zld, Zle, Zlf, Zlg, Zlh, Zli, Zlj, Zlk, Zll, Zlm, Zln, Zlo, Zlp, Zlq, Zlr, Zls, Zlt, Zlu, Zlv, Zlw, Zlx, Zly, Zlz, Zma, Zmb, Zmc, Zmd, Zme, Zmf, Zmg, Zmh, Zmi, Zmj, Zmk, Zml, Zmm, Zmn, Zmo, Zmp, Zmq, Zmr, Zms, Zmt, Zmu, Zmv, Zmw, Zmx, Zmy, Zmz, Zna, Znb, Znc, Znd, Zne, Znf, Zng, Znh, Zni, Znj, Znk, Znl, Znm, Znn, Zno, List.lookup_nil, Znp, Znq, Option.map_some, Option.map_none, Option.bind_some, Option.bind_none, List.map_nil, List.map_cons, List.nil_append, List.cons_append, List.append_nil, List.length_cons, List.length_nil, Nat.reduceAdd, Nat.reduceLeDiff, Nat.reduceEqDiff, Nat.reduceBEq, decide_true, decide_false, Bool.not_true, Bool.not_false, Znr, Zns, Znt, Znu, Znv, Znw, Znx, Zny, Znz, Zoa, Zob, Zoc, Zod, Zoe, List.getElem?_cons_zero, List.getElem?_cons_succ, Zof, Zog, Zoh, Zoi, Zoj, Zok, Zol, Zom, Zon, Zoo, Zop, Zoq, Zor, Zos, Zot, Zou, Zov, Zow, Zox, Zoy, setX, Zoz, Zpa, Zpb, Int.ofNat_lt, Int.ofNat_le, Zpc, Zpd, Zpe, Zpf, Zpg, Zph]
theorem told_c {d : D} (h : φ_check_word [.val d] = .ex ⟨1, []⟩ []) : φ_law_told_by [.val (.fn 2), .val (.tup [d])] = .ok (.d badT) [] := by
  have q : φ_critical_cuts [.val d] = .ex ⟨1, []⟩ [] := by
    apply run_critical_cuts
    unfold g_critical_cuts
    simp -implicitDefEqProofs -dsimp only [↓Zaa, ↓Zab, ↓Zac, ↓Zad, ↓Zae, ↓Zaf, ↓Zag, ↓Zah, ↓Zai, ↓Zaj, ↓Zak, ↓Zal, ↓Zam, ↓Zan, ↓Zao, ↓Zap, ↓Zaq, ↓Zar, ↓Zas, ↓Zat, ↓Zau, ↓Zav, ↓Zaw, ↓Zax, ↓Zay, ↓Zaz, ↓Zba, ↓Zbb, ↓Zbc, ↓Zbd, ↓Zbe, ↓Zbf, ↓Zbg, ↓Zbh, ↓Zbi, ↓Zbj, ↓Zbk, ↓Zbl, ↓Zbm, ↓Zbn, ↓Zbo, ↓Zbp, ↓Zbq, ↓Zbr, ↓Zbs, ↓Zbt, ↓Zbu, ↓Zbv, ↓Zbw, ↓Zbx, ↓Zby, ↓Zbz, ↓Zca, ↓Zcb, ↓Zcc, ↓Zcd, ↓Zce, ↓Zcf, ↓Zcg, ↓Zch, ↓Zci, ↓Zcj, ↓Zck, ↓Zcl, ↓Zcm, ↓Zcn, ↓Zco, ↓Zcp, ↓Zcq, ↓Zcr, ↓Zcs, ↓Zct, ↓Zcu, ↓Zcv, ↓Zcw, ↓Zcx, ↓Zcy, ↓Zcz, ↓Zda, ↓Zdb, ↓Zdc, ↓Zdd, ↓Zde, ↓Zdf, ↓Zdg, ↓Zdh, ↓Zdi, ↓Zdj, ↓Zdk, ↓Zdl, ↓Zdm, ↓Zdn, ↓Zdo, ↓Zdp, ↓Zdq, ↓Zdr, ↓Zds, ↓Zdt, ↓Zdu, ↓Zdv, ↓Zdw, ↓Zdx, ↓Zdy, ↓Zdz, ↓Zea, ↓Zeb, ↓Zec, ↓Zed, ↓Zee, ↓Zef, ↓Zeg, ↓Zeh, ↓Zei, ↓Zej, ↓Zek, ↓Zel, ↓Zem, ↓Zen, ↓Zeo, ↓Zep, ↓Zeq, ↓Zer, ↓Zes, ↓Zet, ↓Zeu, ↓Zev, ↓Zew, ↓Zex, ↓Zey, ↓Zez, ↓Zfa, ↓Zfb, ↓Zfc, ↓Zfd, ↓Zfe, ↓Zff, ↓Zfg, ↓Zfh, ↓Zfi, ↓Zfj, ↓Zfk, ↓Zfl, ↓Zfm, ↓Zfn, ↓Zfo, ↓Zfp, ↓Zfq, ↓Zfr, ↓Zfs, ↓Zft, ↓Zfu, ↓Zfv, ↓Zfw, ↓Zfx, ↓Zfy, ↓Zfz, ↓Zga, ↓Zgb, ↓Zgc, ↓Zgd, ↓Zge, ↓Zgf, ↓Zgg, ↓Zgh, ↓Zgi, ↓Zgj, ↓Zgk, ↓Zgl, ↓Zgm, ↓Zgn, ↓Zgo, ↓Zgp, ↓Zgq, ↓Zgr, ↓Zgs, ↓Zgt, ↓Zgu, ↓Zgv, ↓Zgw, ↓Zgx, ↓Zgy, ↓Zgz, ↓Zha, ↓Zhb, ↓Zhc, ↓Zhd, ↓Zhe, ↓Zhf, ↓Zhg, ↓Zhh, ↓Zhi, ↓Zhj, ↓Zhk, ↓Zhl, ↓Zhm, ↓Zhn, ↓Zho, ↓Zhp, ↓Zhq, ↓Zhr, ↓Zhs, ↓Zht, ↓Zhu, ↓Zhv, ↓Zhw, ↓Zhx, ↓Zhy, ↓Zhz, ↓Zia, ↓Zib, ↓Zic, ↓Zid, ↓Zie, ↓Zif, ↓Zig, ↓Zih, ↓Zii, ↓Zij, ↓Zik, ↓Zil, ↓Zim, ↓Zin, ↓Zio, ↓Ziq, ↓Zir, ↓Zis, ↓Zit, ↓Ziu, ↓Ziv, ↓Ziw, ↓Zix, ↓Ziy, ↓Ziz, ↓Zja, ↓Zjb, ↓Zjc, ↓Zjd, ↓Zje, ↓Zjf, ↓Zjg, ↓Zjh, ↓Zji, ↓Zjj, ↓Zjk, ↓Zjl, ↓Zjm, ↓Zjn, ↓Zjo, ↓Zjp, ↓Zjq, ↓Zjr, ↓Zjs, ↓Zjt, ↓Zju, ↓Zjv, ↓Zjw, ↓Zjx, ↓Zjy, ↓Zjz, ↓Zka, ↓Zkb, ↓Zkc, ↓Zkd, ↓Zke, ↓Zkf, ↓Zkg, ↓Zkh, ↓Zki, ↓Zkj, ↓Zkk, ↓Zkl, ↓Zkm, ↓Zkn, ↓Zko, ↓Zkp, ↓Zkq, ↓Zkr, ↓Zks, ↓Zkt, ↓Zku, ↓Zkv, ↓Zkw, ↓Zkx, ↓Zky, ↓Zkz, reduceIte, if_true, if_false, Bool.false_eq_true, Bool.and_true, Bool.true_and, Bool.and_false, Bool.false_and, Bool.or_true, Bool.true_or, Bool.or_false, Bool.false_or, Int.cast_ofNat_Int, Zla, Zlb, beq_self_eq_true, Int.reduceBEq, Int.reduceLT, Int.reduceLE, Int.reduceEq, Int.reduceNeg, Nat.reduceLT, Zlc, Zld, Zle, Zlf, Zlg, Zlh, Zli, Zlj, Zlk, Zll, Zlm, Zln, Zlo, Zlp, Zlq, Zlr, Zls, Zlt, Zlu, Zlv, Zlw, Zlx, Zly, Zlz, Zma, Zmb, Zmc, Zmd, Zme, Zmf, Zmg, Zmh, Zmi, Zmj, Zmk, Zml, Zmm, Zmn, Zmo, Zmp, Zmq, Zmr, Zms, Zmt, Zmu, Zmv, Zmw, Zmx, Zmy, Zmz, Zna, Znb, Znc, Znd, Zne, Znf, Zng, Znh, Zni, Znj, Znk, Znl, Znm, Znn, Zno, List.lookup_nil, Znp, Znq, Option.map_some, Option.map_none, Option.bind_some, Option.bind_none, List.map_nil, List.map_cons, List.nil_append, List.cons_append, List.append_nil, List.length_cons, List.length_nil, Nat.reduceAdd, Nat.reduceLeDiff, Nat.reduceEqDiff, Nat.reduceBEq, decide_true, decide_false, Bool.not_true, Bool.not_false, Znr, Zns, Znt, Znu, Znv, Znw, Znx, Zny, Znz, Zoa, Zob, Zoc, Zod, Zoe, List.getElem?_cons_zero, List.getElem?_cons_succ, Zof, Zog, Zoh, Zoi, Zoj, Zok, Zol, Zom, Zon, Zoo, Zop, Zoq, Zor, Zos, Zot, Zou, Zov, Zow, Zox, Zoy, setX, Zoz, Zpa, Zpb, Int.ofNat_lt, Int.ofNat_le, Zpc, Zpd, Zpe, Zpf, Zpg, Zph, h]
  apply run_law_told_by
  unfold g_law_told_by
  simp -implicitDefEqProofs -dsimp only [↓Zaa, ↓Zab, ↓Zac, ↓Zad, ↓Zae, ↓Zaf, ↓Zag, ↓Zah, ↓Zai, ↓Zaj, ↓Zak, ↓Zal, ↓Zam, ↓Zan, ↓Zao, ↓Zap, ↓Zaq, ↓Zar, ↓Zas, ↓Zat, ↓Zau, ↓Zav, ↓Zaw, ↓Zax, ↓Zay, ↓Zaz, ↓Zba, ↓Zbb, ↓Zbc, ↓Zbd, ↓Zbe, ↓Zbf, ↓Zbg, ↓Zbh, ↓Zbi, ↓Zbj, ↓Zbk, ↓Zbl, ↓Zbm, ↓Zbn, ↓Zbo, ↓Zbp, ↓Zbq, ↓Zbr, ↓Zbs, ↓Zbt, ↓Zbu, ↓Zbv, ↓Zbw, ↓Zbx, ↓Zby, ↓Zbz, ↓Zca, ↓Zcb, ↓Zcc, ↓Zcd, ↓Zce, ↓Zcf, ↓Zcg, ↓Zch, ↓Zci, ↓Zcj, ↓Zck, ↓Zcl, ↓Zcm, ↓Zcn, ↓Zco, ↓Zcp, ↓Zcq, ↓Zcr, ↓Zcs, ↓Zct, ↓Zcu, ↓Zcv, ↓Zcw, ↓Zcx, ↓Zcy, ↓Zcz, ↓Zda, ↓Zdb, ↓Zdc, ↓Zdd, ↓Zde, ↓Zdf, ↓Zdg, ↓Zdh, ↓Zdi, ↓Zdj, ↓Zdk, ↓Zdl, ↓Zdm, ↓Zdn, ↓Zdo, ↓Zdp, ↓Zdq, ↓Zdr, ↓Zds, ↓Zdt, ↓Zdu, ↓Zdv, ↓Zdw, ↓Zdx, ↓Zdy, ↓Zdz, ↓Zea, ↓Zeb, ↓Zec, ↓Zed, ↓Zee, ↓Zef, ↓Zeg, ↓Zeh, ↓Zei, ↓Zej, ↓Zek, ↓Zel, ↓Zem, ↓Zen, ↓Zeo, ↓Zep, ↓Zeq, ↓Zer, ↓Zes, ↓Zet, ↓Zeu, ↓Zev, ↓Zew, ↓Zex, ↓Zey, ↓Zez, ↓Zfa, ↓Zfb, ↓Zfc, ↓Zfd, ↓Zfe, ↓Zff, ↓Zfg, ↓Zfh, ↓Zfi, ↓Zfj, ↓Zfk, ↓Zfl, ↓Zfm, ↓Zfn, ↓Zfo, ↓Zfp, ↓Zfq, ↓Zfr, ↓Zfs, ↓Zft, ↓Zfu, ↓Zfv, ↓Zfw, ↓Zfx, ↓Zfy, ↓Zfz, ↓Zga, ↓Zgb, ↓Zgc, ↓Zgd, ↓Zge, ↓Zgf, ↓Zgg, ↓Zgh, ↓Zgi, ↓Zgj, ↓Zgk, ↓Zgl, ↓Zgm, ↓Zgn, ↓Zgo, ↓Zgp, ↓Zgq, ↓Zgr, ↓Zgs, ↓Zgt, ↓Zgu, ↓Zgv, ↓Zgw, ↓Zgx, ↓Zgy, ↓Zgz, ↓Zha, ↓Zhb, ↓Zhc, ↓Zhd, ↓Zhe, ↓Zhf, ↓Zhg, ↓Zhh, ↓Zhi, ↓Zhj, ↓Zhk, ↓Zhl, ↓Zhm, ↓Zhn, ↓Zho, ↓Zhp, ↓Zhq, ↓Zhr, ↓Zhs, ↓Zht, ↓Zhu, ↓Zhv, ↓Zhw, ↓Zhx, ↓Zhy, ↓Zhz, ↓Zia, ↓Zib, ↓Zic, ↓Zid, ↓Zie, ↓Zif, ↓Zig, ↓Zih, ↓Zii, ↓Zij, ↓Zik, ↓Zil, ↓Zim, ↓Zin, ↓Zio, ↓Ziq, ↓Zir, ↓Zis, ↓Zit, ↓Ziu, ↓Ziv, ↓Ziw, ↓Zix, ↓Ziy, ↓Ziz, ↓Zja, ↓Zjb, ↓Zjc, ↓Zjd, ↓Zje, ↓Zjf, ↓Zjg, ↓Zjh, ↓Zji, ↓Zjj, ↓Zjk, ↓Zjl, ↓Zjm, ↓Zjn, ↓Zjo, ↓Zjp, ↓Zjq, ↓Zjr, ↓Zjs, ↓Zjt, ↓Zju, ↓Zjv, ↓Zjw, ↓Zjx, ↓Zjy, ↓Zjz, ↓Zka, ↓Zkb, ↓Zkc, ↓Zkd, ↓Zke, ↓Zkf, ↓Zkg, ↓Zkh, ↓Zki, ↓Zkj, ↓Zkk, ↓Zkl, ↓Zkm, ↓Zkn, ↓Zko, ↓Zkp, ↓Zkq, ↓Zkr, ↓Zks, ↓Zkt, ↓Zku, ↓Zkv, ↓Zkw, ↓Zkx, ↓Zky, ↓Zkz, reduceIte, if_true, if_false, Bool.false_eq_true, Bool.and_true, Bool.true_and, Bool.and_false, Bool.false_and, Bool.or_true, Bool.true_or, Bool.or_false, Bool.false_or, Int.cast_ofNat_Int, Zla, Zlb, beq_self_eq_true, Int.reduceBEq, Int.reduceLT, Int.reduceLE, Int.reduceEq, Int.reduceNeg, Nat.reduceLT, Zlc, Zld, Zle, Zlf, Zlg, Zlh, Zli, Zlj, Zlk, Zll, Zlm, Zln, Zlo, Zlp, Zlq, Zlr, Zls, Zlt, Zlu, Zlv, Zlw, Zlx, Zly, Zlz, Zma, Zmb, Zmc, Zmd, Zme, Zmf, Zmg, Zmh, Zmi, Zmj, Zmk, Zml, Zmm, Zmn, Zmo, Zmp, Zmq, Zmr, Zms, Zmt, Zmu, Zmv, Zmw, Zmx, Zmy, Zmz, Zna, Znb, Znc, Znd, Zne, Znf, Zng, Znh, Zni, Znj, Znk, Znl, Znm, Znn, Zno, List.lookup_nil, Znp, Znq, Option.map_some, Option.map_none, Option.bind_some, Option.bind_none, List.map_nil, List.map_cons, List.nil_append, List.cons_append, List.append_nil, List.length_cons, List.length_nil, Nat.reduceAdd, Nat.reduceLeDiff, Nat.reduceEqDiff, Nat.reduceBEq, decide_true, decide_false, Bool.not_true, Bool.not_false, Znr, Zns, Znt, Znu, Znv, Znw, Znx, Zny, Znz, Zoa, Zob, Zoc, Zod, Zoe, List.getElem?_cons_zero, List.getElem?_cons_succ, Zof, Zog, Zoh, Zoi, Zoj, Zok, Zol, Zom, Zon, Zoo, Zop, Zoq, Zor, Zos, Zot, Zou, Zov, Zow, Zox, Zoy, setX, Zoz, Zpa, Zpb, Int.ofNat_lt, Int.ofNat_le, Zpc, Zpd, Zpe, Zpf, Zpg, Zph, q]
  refine hs1_t (r := .rt (.d badT) [.val (.fn 2), .val (.tup [d]), .un]) rfl (fun a d => ?_) ?_
  · simp -implicitDefEqProofs -dsimp only [↓Zaa, ↓Zab, ↓Zac, ↓Zad, ↓Zae, ↓Zaf, ↓Zag, ↓Zah, ↓Zai, ↓Zaj, ↓Zak, ↓Zal, ↓Zam, ↓Zan, ↓Zao, ↓Zap, ↓Zaq, ↓Zar, ↓Zas, ↓Zat, ↓Zau, ↓Zav, ↓Zaw, ↓Zax, ↓Zay, ↓Zaz, ↓Zba, ↓Zbb, ↓Zbc, ↓Zbd, ↓Zbe, ↓Zbf, ↓Zbg, ↓Zbh, ↓Zbi, ↓Zbj, ↓Zbk, ↓Zbl, ↓Zbm, ↓Zbn, ↓Zbo, ↓Zbp, ↓Zbq, ↓Zbr, ↓Zbs, ↓Zbt, ↓Zbu, ↓Zbv, ↓Zbw, ↓Zbx, ↓Zby, ↓Zbz, ↓Zca, ↓Zcb, ↓Zcc, ↓Zcd, ↓Zce, ↓Zcf, ↓Zcg, ↓Zch, ↓Zci, ↓Zcj, ↓Zck, ↓Zcl, ↓Zcm, ↓Zcn, ↓Zco, ↓Zcp, ↓Zcq, ↓Zcr, ↓Zcs, ↓Zct, ↓Zcu, ↓Zcv, ↓Zcw, ↓Zcx, ↓Zcy, ↓Zcz, ↓Zda, ↓Zdb, ↓Zdc, ↓Zdd, ↓Zde, ↓Zdf, ↓Zdg, ↓Zdh, ↓Zdi, ↓Zdj, ↓Zdk, ↓Zdl, ↓Zdm, ↓Zdn, ↓Zdo, ↓Zdp, ↓Zdq, ↓Zdr, ↓Zds, ↓Zdt, ↓Zdu, ↓Zdv, ↓Zdw, ↓Zdx, ↓Zdy, ↓Zdz, ↓Zea, ↓Zeb, ↓Zec, ↓Zed, ↓Zee, ↓Zef, ↓Zeg, ↓Zeh, ↓Zei, ↓Zej, ↓Zek, ↓Zel, ↓Zem, ↓Zen, ↓Zeo, ↓Zep, ↓Zeq, ↓Zer, ↓Zes, ↓Zet, ↓Zeu, ↓Zev, ↓Zew, ↓Zex, ↓Zey, ↓Zez, ↓Zfa, ↓Zfb, ↓Zfc, ↓Zfd, ↓Zfe, ↓Zff, ↓Zfg, ↓Zfh, ↓Zfi, ↓Zfj, ↓Zfk, ↓Zfl, ↓Zfm, ↓Zfn, ↓Zfo, ↓Zfp, ↓Zfq, ↓Zfr, ↓Zfs, ↓Zft, ↓Zfu, ↓Zfv, ↓Zfw, ↓Zfx, ↓Zfy, ↓Zfz, ↓Zga, ↓Zgb, ↓Zgc, ↓Zgd, ↓Zge, ↓Zgf, ↓Zgg, ↓Zgh, ↓Zgi, ↓Zgj, ↓Zgk, ↓Zgl, ↓Zgm, ↓Zgn, ↓Zgo, ↓Zgp, ↓Zgq, ↓Zgr, ↓Zgs, ↓Zgt, ↓Zgu, ↓Zgv, ↓Zgw, ↓Zgx, ↓Zgy, ↓Zgz, ↓Zha, ↓Zhb, ↓Zhc, ↓Zhd, ↓Zhe, ↓Zhf, ↓Zhg, ↓Zhh, ↓Zhi, ↓Zhj, ↓Zhk, ↓Zhl, ↓Zhm, ↓Zhn, ↓Zho, ↓Zhp, ↓Zhq, ↓Zhr, ↓Zhs, ↓Zht, ↓Zhu, ↓Zhv, ↓Zhw, ↓Zhx, ↓Zhy, ↓Zhz, ↓Zia, ↓Zib, ↓Zic, ↓Zid, ↓Zie, ↓Zif, ↓Zig, ↓Zih, ↓Zii, ↓Zij, ↓Zik, ↓Zil, ↓Zim, ↓Zin, ↓Zio, ↓Ziq, ↓Zir, ↓Zis, ↓Zit, ↓Ziu, ↓Ziv, ↓Ziw, ↓Zix, ↓Ziy, ↓Ziz, ↓Zja, ↓Zjb, ↓Zjc, ↓Zjd, ↓Zje, ↓Zjf, ↓Zjg, ↓Zjh, ↓Zji, ↓Zjj, ↓Zjk, ↓Zjl, ↓Zjm, ↓Zjn, ↓Zjo, ↓Zjp, ↓Zjq, ↓Zjr, ↓Zjs, ↓Zjt, ↓Zju, ↓Zjv, ↓Zjw, ↓Zjx, ↓Zjy, ↓Zjz, ↓Zka, ↓Zkb, ↓Zkc, ↓Zkd, ↓Zke, ↓Zkf, ↓Zkg, ↓Zkh, ↓Zki, ↓Zkj, ↓Zkk, ↓Zkl, ↓Zkm, ↓Zkn, ↓Zko, ↓Zkp, ↓Zkq, ↓Zkr, ↓Zks, ↓Zkt, ↓Zku, ↓Zkv, ↓Zkw, ↓Zkx, ↓Zky, ↓Zkz, reduceIte, if_true, if_false, Bool.false_eq_true, Bool.and_true, Bool.true_and, Bool.and_false, Bool.false_and, Bool.or_true, Bool.true_or, Bool.or_false, Bool.false_or, Int.cast_ofNat_Int, Zla, Zlb, beq_self_eq_true, Int.reduceBEq, Int.reduceLT, Int.reduceLE, Int.reduceEq, Int.reduceNeg, Nat.reduceLT, Zlc, Zld, Zle, Zlf, Zlg, Zlh, Zli, Zlj, Zlk, Zll, Zlm, Zln, Zlo, Zlp, Zlq, Zlr, Zls, Zlt, Zlu, Zlv, Zlw, Zlx, Zly, Zlz, Zma, Zmb, Zmc, Zmd, Zme, Zmf, Zmg, Zmh, Zmi, Zmj, Zmk, Zml, Zmm, Zmn, Zmo, Zmp, Zmq, Zmr, Zms, Zmt, Zmu, Zmv, Zmw, Zmx, Zmy, Zmz, Zna, Znb, Znc, Znd, Zne, Znf, Zng, Znh, Zni, Znj, Znk, Znl, Znm, Znn, Zno, List.lookup_nil, Znp, Znq, Option.map_some, Option.map_none, Option.bind_some, Option.bind_none, List.map_nil, List.map_cons, List.nil_append, List.cons_append, List.append_nil, List.length_cons, List.length_nil, Nat.reduceAdd, Nat.reduceLeDiff, Nat.reduceEqDiff, Nat.reduceBEq, decide_true, decide_false, Bool.not_true, Bool.not_false, Znr, Zns, Znt, Znu, Znv, Znw, Znx, Zny, Znz, Zoa, Zob, Zoc, Zod, Zoe, List.getElem?_cons_zero, List.getElem?_cons_succ, Zof, Zog, Zoh, Zoi, Zoj, Zok, Zol, Zom, Zon, Zoo, Zop, Zoq, Zor, Zos, Zot, Zou, Zov, Zow, Zox, Zoy, setX, Zoz, Zpa, Zpb, Int.ofNat_lt, Int.ofNat_le, Zpc, Zpd, Zpe, Zpf, Zpg, Zph]
  simp -implicitDefEqProofs -dsimp only [↓Zaa, ↓Zab, ↓Zac, ↓Zad, ↓Zae, ↓Zaf, ↓Zag, ↓Zah, ↓Zai, ↓Zaj, ↓Zak, ↓Zal, ↓Zam, ↓Zan, ↓Zao, ↓Zap, ↓Zaq, ↓Zar, ↓Zas, ↓Zat, ↓Zau, ↓Zav, ↓Zaw, ↓Zax, ↓Zay, ↓Zaz, ↓Zba, ↓Zbb, ↓Zbc, ↓Zbd, ↓Zbe, ↓Zbf, ↓Zbg, ↓Zbh, ↓Zbi, ↓Zbj, ↓Zbk, ↓Zbl, ↓Zbm, ↓Zbn, ↓Zbo, ↓Zbp, ↓Zbq, ↓Zbr, ↓Zbs, ↓Zbt, ↓Zbu, ↓Zbv, ↓Zbw, ↓Zbx, ↓Zby, ↓Zbz, ↓Zca, ↓Zcb, ↓Zcc, ↓Zcd, ↓Zce, ↓Zcf, ↓Zcg, ↓Zch, ↓Zci, ↓Zcj, ↓Zck, ↓Zcl, ↓Zcm, ↓Zcn, ↓Zco, ↓Zcp, ↓Zcq, ↓Zcr, ↓Zcs, ↓Zct, ↓Zcu, ↓Zcv, ↓Zcw, ↓Zcx, ↓Zcy, ↓Zcz, ↓Zda, ↓Zdb, ↓Zdc, ↓Zdd, ↓Zde, ↓Zdf, ↓Zdg, ↓Zdh, ↓Zdi, ↓Zdj, ↓Zdk, ↓Zdl, ↓Zdm, ↓Zdn, ↓Zdo, ↓Zdp, ↓Zdq, ↓Zdr, ↓Zds, ↓Zdt, ↓Zdu, ↓Zdv, ↓Zdw, ↓Zdx, ↓Zdy, ↓Zdz, ↓Zea, ↓Zeb, ↓Zec, ↓Zed, ↓Zee, ↓Zef, ↓Zeg, ↓Zeh, ↓Zei, ↓Zej, ↓Zek, ↓Zel, ↓Zem, ↓Zen, ↓Zeo, ↓Zep, ↓Zeq, ↓Zer, ↓Zes, ↓Zet, ↓Zeu, ↓Zev, ↓Zew, ↓Zex, ↓Zey, ↓Zez, ↓Zfa, ↓Zfb, ↓Zfc, ↓Zfd, ↓Zfe, ↓Zff, ↓Zfg, ↓Zfh, ↓Zfi, ↓Zfj, ↓Zfk, ↓Zfl, ↓Zfm, ↓Zfn, ↓Zfo, ↓Zfp, ↓Zfq, ↓Zfr, ↓Zfs, ↓Zft, ↓Zfu, ↓Zfv, ↓Zfw, ↓Zfx, ↓Zfy, ↓Zfz, ↓Zga, ↓Zgb, ↓Zgc, ↓Zgd, ↓Zge, ↓Zgf, ↓Zgg, ↓Zgh, ↓Zgi, ↓Zgj, ↓Zgk, ↓Zgl, ↓Zgm, ↓Zgn, ↓Zgo, ↓Zgp, ↓Zgq, ↓Zgr, ↓Zgs, ↓Zgt, ↓Zgu, ↓Zgv, ↓Zgw, ↓Zgx, ↓Zgy, ↓Zgz, ↓Zha, ↓Zhb, ↓Zhc, ↓Zhd, ↓Zhe, ↓Zhf, ↓Zhg, ↓Zhh, ↓Zhi, ↓Zhj, ↓Zhk, ↓Zhl, ↓Zhm, ↓Zhn, ↓Zho, ↓Zhp, ↓Zhq, ↓Zhr, ↓Zhs, ↓Zht, ↓Zhu, ↓Zhv, ↓Zhw, ↓Zhx, ↓Zhy, ↓Zhz, ↓Zia, ↓Zib, ↓Zic, ↓Zid, ↓Zie, ↓Zif, ↓Zig, ↓Zih, ↓Zii, ↓Zij, ↓Zik, ↓Zil, ↓Zim, ↓Zin, ↓Zio, ↓Ziq, ↓Zir, ↓Zis, ↓Zit, ↓Ziu, ↓Ziv, ↓Ziw, ↓Zix, ↓Ziy, ↓Ziz, ↓Zja, ↓Zjb, ↓Zjc, ↓Zjd, ↓Zje, ↓Zjf, ↓Zjg, ↓Zjh, ↓Zji, ↓Zjj, ↓Zjk, ↓Zjl, ↓Zjm, ↓Zjn, ↓Zjo, ↓Zjp, ↓Zjq, ↓Zjr, ↓Zjs, ↓Zjt, ↓Zju, ↓Zjv, ↓Zjw, ↓Zjx, ↓Zjy, ↓Zjz, ↓Zka, ↓Zkb, ↓Zkc, ↓Zkd, ↓Zke, ↓Zkf, ↓Zkg, ↓Zkh, ↓Zki, ↓Zkj, ↓Zkk, ↓Zkl, ↓Zkm, ↓Zkn, ↓Zko, ↓Zkp, ↓Zkq, ↓Zkr, ↓Zks, ↓Zkt, ↓Zku, ↓Zkv, ↓Zkw, ↓Zkx, ↓Zky, ↓Zkz, reduceIte, if_true, if_false, Bool.false_eq_true, Bool.and_true, Bool.true_and, Bool.and_false, Bool.false_and, Bool.or_true, Bool.true_or, Bool.or_false, Bool.false_or, Int.cast_ofNat_Int, Zla, Zlb, beq_self_eq_true, Int.reduceBEq, Int.reduceLT, Int.reduceLE, Int.reduceEq, Int.reduceNeg, Nat.reduceLT, Zlc, Zld, Zle, Zlf, Zlg, Zlh, Zli, Zlj, Zlk, Zll, Zlm, Zln, Zlo, Zlp, Zlq, Zlr, Zls, Zlt, Zlu, Zlv, Zlw, Zlx, Zly, Zlz, Zma, Zmb, Zmc, Zmd, Zme, Zmf, Zmg, Zmh, Zmi, Zmj, Zmk, Zml, Zmm, Zmn, Zmo, Zmp, Zmq, Zmr, Zms, Zmt, Zmu, Zmv, Zmw, Zmx, Zmy, Zmz, Zna, Znb, Znc, Znd, Zne, Znf, Zng, Znh, Zni, Znj, Znk, Znl, Znm, Znn, Zno, List.lookup_nil, Znp, Znq, Option.map_some, Option.map_none, Option.bind_some, Option.bind_none, List.map_nil, List.map_cons, List.nil_append, List.cons_append, List.append_nil, List.length_cons, List.length_nil, Nat.reduceAdd, Nat.reduceLeDiff, Nat.reduceEqDiff, Nat.reduceBEq, decide_true, decide_false, Bool.not_true, Bool.not_false, Znr, Zns, Znt, Znu, Znv, Znw, Znx, Zny, Znz, Zoa, Zob, Zoc, Zod, Zoe, List.getElem?_cons_zero, List.getElem?_cons_succ, Zof, Zog, Zoh, Zoi, Zoj, Zok, Zol, Zom, Zon, Zoo, Zop, Zoq, Zor, Zos, Zot, Zou, Zov, Zow, Zox, Zoy, setX, Zoz, Zpa, Zpb, Int.ofNat_lt, Int.ofNat_le, Zpc, Zpd, Zpe, Zpf, Zpg, Zph]
theorem told_l {d x : D} (h : φ_local_period [.val d, .val x] = .ex ⟨1, []⟩ []) : φ_law_told_by [.val (.fn 3), .val (.tup [d, x])] = .ok (.d badT) [] := by
  apply run_law_told_by
  unfold g_law_told_by
  simp -implicitDefEqProofs -dsimp only [↓Zaa, ↓Zab, ↓Zac, ↓Zad, ↓Zae, ↓Zaf, ↓Zag, ↓Zah, ↓Zai, ↓Zaj, ↓Zak, ↓Zal, ↓Zam, ↓Zan, ↓Zao, ↓Zap, ↓Zaq, ↓Zar, ↓Zas, ↓Zat, ↓Zau, ↓Zav, ↓Zaw, ↓Zax, ↓Zay, ↓Zaz, ↓Zba, ↓Zbb, ↓Zbc, ↓Zbd, ↓Zbe, ↓Zbf, ↓Zbg, ↓Zbh, ↓Zbi, ↓Zbj, ↓Zbk, ↓Zbl, ↓Zbm, ↓Zbn, ↓Zbo, ↓Zbp, ↓Zbq, ↓Zbr, ↓Zbs, ↓Zbt, ↓Zbu, ↓Zbv, ↓Zbw, ↓Zbx, ↓Zby, ↓Zbz, ↓Zca, ↓Zcb, ↓Zcc, ↓Zcd, ↓Zce, ↓Zcf, ↓Zcg, ↓Zch, ↓Zci, ↓Zcj, ↓Zck, ↓Zcl, ↓Zcm, ↓Zcn, ↓Zco, ↓Zcp, ↓Zcq, ↓Zcr, ↓Zcs, ↓Zct, ↓Zcu, ↓Zcv, ↓Zcw, ↓Zcx, ↓Zcy, ↓Zcz, ↓Zda, ↓Zdb, ↓Zdc, ↓Zdd, ↓Zde, ↓Zdf, ↓Zdg, ↓Zdh, ↓Zdi, ↓Zdj, ↓Zdk, ↓Zdl, ↓Zdm, ↓Zdn, ↓Zdo, ↓Zdp, ↓Zdq, ↓Zdr, ↓Zds, ↓Zdt, ↓Zdu, ↓Zdv, ↓Zdw, ↓Zdx, ↓Zdy, ↓Zdz, ↓Zea, ↓Zeb, ↓Zec, ↓Zed, ↓Zee, ↓Zef, ↓Zeg, ↓Zeh, ↓Zei, ↓Zej, ↓Zek, ↓Zel, ↓Zem, ↓Zen, ↓Zeo, ↓Zep, ↓Zeq, ↓Zer, ↓Zes, ↓Zet, ↓Zeu, ↓Zev, ↓Zew, ↓Zex, ↓Zey, ↓Zez, ↓Zfa, ↓Zfb, ↓Zfc, ↓Zfd, ↓Zfe, ↓Zff, ↓Zfg, ↓Zfh, ↓Zfi, ↓Zfj, ↓Zfk, ↓Zfl, ↓Zfm, ↓Zfn, ↓Zfo, ↓Zfp, ↓Zfq, ↓Zfr, ↓Zfs, ↓Zft, ↓Zfu, ↓Zfv, ↓Zfw, ↓Zfx, ↓Zfy, ↓Zfz, ↓Zga, ↓Zgb, ↓Zgc, ↓Zgd, ↓Zge, ↓Zgf, ↓Zgg, ↓Zgh, ↓Zgi, ↓Zgj, ↓Zgk, ↓Zgl, ↓Zgm, ↓Zgn, ↓Zgo, ↓Zgp, ↓Zgq, ↓Zgr, ↓Zgs, ↓Zgt, ↓Zgu, ↓Zgv, ↓Zgw, ↓Zgx, ↓Zgy, ↓Zgz, ↓Zha, ↓Zhb, ↓Zhc, ↓Zhd, ↓Zhe, ↓Zhf, ↓Zhg, ↓Zhh, ↓Zhi, ↓Zhj, ↓Zhk, ↓Zhl, ↓Zhm, ↓Zhn, ↓Zho, ↓Zhp, ↓Zhq, ↓Zhr, ↓Zhs, ↓Zht, ↓Zhu, ↓Zhv, ↓Zhw, ↓Zhx, ↓Zhy, ↓Zhz, ↓Zia, ↓Zib, ↓Zic, ↓Zid, ↓Zie, ↓Zif, ↓Zig, ↓Zih, ↓Zii, ↓Zij, ↓Zik, ↓Zil, ↓Zim, ↓Zin, ↓Zio, ↓Ziq, ↓Zir, ↓Zis, ↓Zit, ↓Ziu, ↓Ziv, ↓Ziw, ↓Zix, ↓Ziy, ↓Ziz, ↓Zja, ↓Zjb, ↓Zjc, ↓Zjd, ↓Zje, ↓Zjf, ↓Zjg, ↓Zjh, ↓Zji, ↓Zjj, ↓Zjk, ↓Zjl, ↓Zjm, ↓Zjn, ↓Zjo, ↓Zjp, ↓Zjq, ↓Zjr, ↓Zjs, ↓Zjt, ↓Zju, ↓Zjv, ↓Zjw, ↓Zjx, ↓Zjy, ↓Zjz, ↓Zka, ↓Zkb, ↓Zkc, ↓Zkd, ↓Zke, ↓Zkf, ↓Zkg, ↓Zkh, ↓Zki, ↓Zkj, ↓Zkk, ↓Zkl, ↓Zkm, ↓Zkn, ↓Zko, ↓Zkp, ↓Zkq, ↓Zkr, ↓Zks, ↓Zkt, ↓Zku, ↓Zkv, ↓Zkw, ↓Zkx, ↓Zky, ↓Zkz, reduceIte, if_true, if_false, Bool.false_eq_true, Bool.and_true, Bool.true_and, Bool.and_false, Bool.false_and, Bool.or_true, Bool.true_or, Bool.or_false, Bool.false_or, Int.cast_ofNat_Int, Zla, Zlb, beq_self_eq_true, Int.reduceBEq, Int.reduceLT, Int.reduceLE, Int.reduceEq, Int.reduceNeg, Nat.reduceLT, Zlc, Zld, Zle, Zlf, Zlg, Zlh, Zli, Zlj, Zlk, Zll, Zlm, Zln, Zlo, Zlp, Zlq, Zlr, Zls, Zlt, Zlu, Zlv, Zlw, Zlx, Zly, Zlz, Zma, Zmb, Zmc, Zmd, Zme, Zmf, Zmg, Zmh, Zmi, Zmj, Zmk, Zml, Zmm, Zmn, Zmo, Zmp, Zmq, Zmr, Zms, Zmt, Zmu, Zmv, Zmw, Zmx, Zmy, Zmz, Zna, Znb, Znc, Znd, Zne, Znf, Zng, Znh, Zni, Znj, Znk, Znl, Znm, Znn, Zno, List.lookup_nil, Znp, Znq, Option.map_some, Option.map_none, Option.bind_some, Option.bind_none, List.map_nil, List.map_cons, List.nil_append, List.cons_append, List.append_nil, List.length_cons, List.length_nil, Nat.reduceAdd, Nat.reduceLeDiff, Nat.reduceEqDiff, Nat.reduceBEq, decide_true, decide_false, Bool.not_true, Bool.not_false, Znr, Zns, Znt, Znu, Znv, Znw, Znx, Zny, Znz, Zoa, Zob, Zoc, Zod, Zoe, List.getElem?_cons_zero, List.getElem?_cons_succ, Zof, Zog, Zoh, Zoi, Zoj, Zok, Zol, Zom, Zon, Zoo, Zop, Zoq, Zor, Zos, Zot, Zou, Zov, Zow, Zox, Zoy, setX, Zoz, Zpa, Zpb, Int.ofNat_lt, Int.ofNat_le, Zpc, Zpd, Zpe, Zpf, Zpg, Zph, h]
  refine hs1_t (r := .rt (.d badT) [.val (.fn 3), .val (.tup [d, x]), .un]) rfl (fun a d => ?_) ?_
  · simp -implicitDefEqProofs -dsimp only [↓Zaa, ↓Zab, ↓Zac, ↓Zad, ↓Zae, ↓Zaf, ↓Zag, ↓Zah, ↓Zai, ↓Zaj, ↓Zak, ↓Zal, ↓Zam, ↓Zan, ↓Zao, ↓Zap, ↓Zaq, ↓Zar, ↓Zas, ↓Zat, ↓Zau, ↓Zav, ↓Zaw, ↓Zax, ↓Zay, ↓Zaz, ↓Zba, ↓Zbb, ↓Zbc, ↓Zbd, ↓Zbe, ↓Zbf, ↓Zbg, ↓Zbh, ↓Zbi, ↓Zbj, ↓Zbk, ↓Zbl, ↓Zbm, ↓Zbn, ↓Zbo, ↓Zbp, ↓Zbq, ↓Zbr, ↓Zbs, ↓Zbt, ↓Zbu, ↓Zbv, ↓Zbw, ↓Zbx, ↓Zby, ↓Zbz, ↓Zca, ↓Zcb, ↓Zcc, ↓Zcd, ↓Zce, ↓Zcf, ↓Zcg, ↓Zch, ↓Zci, ↓Zcj, ↓Zck, ↓Zcl, ↓Zcm, ↓Zcn, ↓Zco, ↓Zcp, ↓Zcq, ↓Zcr, ↓Zcs, ↓Zct, ↓Zcu, ↓Zcv, ↓Zcw, ↓Zcx, ↓Zcy, ↓Zcz, ↓Zda, ↓Zdb, ↓Zdc, ↓Zdd, ↓Zde, ↓Zdf, ↓Zdg, ↓Zdh, ↓Zdi, ↓Zdj, ↓Zdk, ↓Zdl, ↓Zdm, ↓Zdn, ↓Zdo, ↓Zdp, ↓Zdq, ↓Zdr, ↓Zds, ↓Zdt, ↓Zdu, ↓Zdv, ↓Zdw, ↓Zdx, ↓Zdy, ↓Zdz, ↓Zea, ↓Zeb, ↓Zec, ↓Zed, ↓Zee, ↓Zef, ↓Zeg, ↓Zeh, ↓Zei, ↓Zej, ↓Zek, ↓Zel, ↓Zem, ↓Zen, ↓Zeo, ↓Zep, ↓Zeq, ↓Zer, ↓Zes, ↓Zet, ↓Zeu, ↓Zev, ↓Zew, ↓Zex, ↓Zey, ↓Zez, ↓Zfa, ↓Zfb, ↓Zfc, ↓Zfd, ↓Zfe, ↓Zff, ↓Zfg, ↓Zfh, ↓Zfi, ↓Zfj, ↓Zfk, ↓Zfl, ↓Zfm, ↓Zfn, ↓Zfo, ↓Zfp, ↓Zfq, ↓Zfr, ↓Zfs, ↓Zft, ↓Zfu, ↓Zfv, ↓Zfw, ↓Zfx, ↓Zfy, ↓Zfz, ↓Zga, ↓Zgb, ↓Zgc, ↓Zgd, ↓Zge, ↓Zgf, ↓Zgg, ↓Zgh, ↓Zgi, ↓Zgj, ↓Zgk, ↓Zgl, ↓Zgm, ↓Zgn, ↓Zgo, ↓Zgp, ↓Zgq, ↓Zgr, ↓Zgs, ↓Zgt, ↓Zgu, ↓Zgv, ↓Zgw, ↓Zgx, ↓Zgy, ↓Zgz, ↓Zha, ↓Zhb, ↓Zhc, ↓Zhd, ↓Zhe, ↓Zhf, ↓Zhg, ↓Zhh, ↓Zhi, ↓Zhj, ↓Zhk, ↓Zhl, ↓Zhm, ↓Zhn, ↓Zho, ↓Zhp, ↓Zhq, ↓Zhr, ↓Zhs, ↓Zht, ↓Zhu, ↓Zhv, ↓Zhw, ↓Zhx, ↓Zhy, ↓Zhz, ↓Zia, ↓Zib, ↓Zic, ↓Zid, ↓Zie, ↓Zif, ↓Zig, ↓Zih, ↓Zii, ↓Zij, ↓Zik, ↓Zil, ↓Zim, ↓Zin, ↓Zio, ↓Ziq, ↓Zir, ↓Zis, ↓Zit, ↓Ziu, ↓Ziv, ↓Ziw, ↓Zix, ↓Ziy, ↓Ziz, ↓Zja, ↓Zjb, ↓Zjc, ↓Zjd, ↓Zje, ↓Zjf, ↓Zjg, ↓Zjh, ↓Zji, ↓Zjj, ↓Zjk, ↓Zjl, ↓Zjm, ↓Zjn, ↓Zjo, ↓Zjp, ↓Zjq, ↓Zjr, ↓Zjs, ↓Zjt, ↓Zju, ↓Zjv, ↓Zjw, ↓Zjx, ↓Zjy, ↓Zjz, ↓Zka, ↓Zkb, ↓Zkc, ↓Zkd, ↓Zke, ↓Zkf, ↓Zkg, ↓Zkh, ↓Zki, ↓Zkj, ↓Zkk, ↓Zkl, ↓Zkm, ↓Zkn, ↓Zko, ↓Zkp, ↓Zkq, ↓Zkr, ↓Zks, ↓Zkt, ↓Zku, ↓Zkv, ↓Zkw, ↓Zkx, ↓Zky, ↓Zkz, reduceIte, if_true, if_false, Bool.false_eq_true, Bool.and_true, Bool.true_and, Bool.and_false, Bool.false_and, Bool.or_true, Bool.true_or, Bool.or_false, Bool.false_or, Int.cast_ofNat_Int, Zla, Zlb, beq_self_eq_true, Int.reduceBEq, Int.reduceLT, Int.reduceLE, Int.reduceEq, Int.reduceNeg, Nat.reduceLT, Zlc, Zld, Zle, Zlf, Zlg, Zlh, Zli, Zlj, Zlk, Zll, Zlm, Zln, Zlo, Zlp, Zlq, Zlr, Zls, Zlt, Zlu, Zlv, Zlw, Zlx, Zly, Zlz, Zma, Zmb, Zmc, Zmd, Zme, Zmf, Zmg, Zmh, Zmi, Zmj, Zmk, Zml, Zmm, Zmn, Zmo, Zmp, Zmq, Zmr, Zms, Zmt, Zmu, Zmv, Zmw, Zmx, Zmy, Zmz, Zna, Znb, Znc, Znd, Zne, Znf, Zng, Znh, Zni, Znj, Znk, Znl, Znm, Znn, Zno, List.lookup_nil, Znp, Znq, Option.map_some, Option.map_none, Option.bind_some, Option.bind_none, List.map_nil, List.map_cons, List.nil_append, List.cons_append, List.append_nil, List.length_cons, List.length_nil, Nat.reduceAdd, Nat.reduceLeDiff, Nat.reduceEqDiff, Nat.reduceBEq, decide_true, decide_false, Bool.not_true, Bool.not_false, Znr, Zns, Znt, Znu, Znv, Znw, Znx, Zny, Znz, Zoa, Zob, Zoc, Zod, Zoe, List.getElem?_cons_zero, List.getElem?_cons_succ, Zof, Zog, Zoh, Zoi, Zoj, Zok, Zol, Zom, Zon, Zoo, Zop, Zoq, Zor, Zos, Zot, Zou, Zov, Zow, Zox, Zoy, setX, Zoz, Zpa, Zpb, Int.ofNat_lt, Int.ofNat_le, Zpc, Zpd, Zpe, Zpf, Zpg, Zph]
  simp -implicitDefEqProofs -dsimp only [↓Zaa, ↓Zab, ↓Zac, ↓Zad, ↓Zae, ↓Zaf, ↓Zag, ↓Zah, ↓Zai, ↓Zaj, ↓Zak, ↓Zal, ↓Zam, ↓Zan, ↓Zao, ↓Zap, ↓Zaq, ↓Zar, ↓Zas, ↓Zat, ↓Zau, ↓Zav, ↓Zaw, ↓Zax, ↓Zay, ↓Zaz, ↓Zba, ↓Zbb, ↓Zbc, ↓Zbd, ↓Zbe, ↓Zbf, ↓Zbg, ↓Zbh, ↓Zbi, ↓Zbj, ↓Zbk, ↓Zbl, ↓Zbm, ↓Zbn, ↓Zbo, ↓Zbp, ↓Zbq, ↓Zbr, ↓Zbs, ↓Zbt, ↓Zbu, ↓Zbv, ↓Zbw, ↓Zbx, ↓Zby, ↓Zbz, ↓Zca, ↓Zcb, ↓Zcc, ↓Zcd, ↓Zce, ↓Zcf, ↓Zcg, ↓Zch, ↓Zci, ↓Zcj, ↓Zck, ↓Zcl, ↓Zcm, ↓Zcn, ↓Zco, ↓Zcp, ↓Zcq, ↓Zcr, ↓Zcs, ↓Zct, ↓Zcu, ↓Zcv, ↓Zcw, ↓Zcx, ↓Zcy, ↓Zcz, ↓Zda, ↓Zdb, ↓Zdc, ↓Zdd, ↓Zde, ↓Zdf, ↓Zdg, ↓Zdh, ↓Zdi, ↓Zdj, ↓Zdk, ↓Zdl, ↓Zdm, ↓Zdn, ↓Zdo, ↓Zdp, ↓Zdq, ↓Zdr, ↓Zds, ↓Zdt, ↓Zdu, ↓Zdv, ↓Zdw, ↓Zdx, ↓Zdy, ↓Zdz, ↓Zea, ↓Zeb, ↓Zec, ↓Zed, ↓Zee, ↓Zef, ↓Zeg, ↓Zeh, ↓Zei, ↓Zej, ↓Zek, ↓Zel, ↓Zem, ↓Zen, ↓Zeo, ↓Zep, ↓Zeq, ↓Zer, ↓Zes, ↓Zet, ↓Zeu, ↓Zev, ↓Zew, ↓Zex, ↓Zey, ↓Zez, ↓Zfa, ↓Zfb, ↓Zfc, ↓Zfd, ↓Zfe, ↓Zff, ↓Zfg, ↓Zfh, ↓Zfi, ↓Zfj, ↓Zfk, ↓Zfl, ↓Zfm, ↓Zfn, ↓Zfo, ↓Zfp, ↓Zfq, ↓Zfr, ↓Zfs, ↓Zft, ↓Zfu, ↓Zfv, ↓Zfw, ↓Zfx, ↓Zfy, ↓Zfz, ↓Zga, ↓Zgb, ↓Zgc, ↓Zgd, ↓Zge, ↓Zgf, ↓Zgg, ↓Zgh, ↓Zgi, ↓Zgj, ↓Zgk, ↓Zgl, ↓Zgm, ↓Zgn, ↓Zgo, ↓Zgp, ↓Zgq, ↓Zgr, ↓Zgs, ↓Zgt, ↓Zgu, ↓Zgv, ↓Zgw, ↓Zgx, ↓Zgy, ↓Zgz, ↓Zha, ↓Zhb, ↓Zhc, ↓Zhd, ↓Zhe, ↓Zhf, ↓Zhg, ↓Zhh, ↓Zhi, ↓Zhj, ↓Zhk, ↓Zhl, ↓Zhm, ↓Zhn, ↓Zho, ↓Zhp, ↓Zhq, ↓Zhr, ↓Zhs, ↓Zht, ↓Zhu, ↓Zhv, ↓Zhw, ↓Zhx, ↓Zhy, ↓Zhz, ↓Zia, ↓Zib, ↓Zic, ↓Zid, ↓Zie, ↓Zif, ↓Zig, ↓Zih, ↓Zii, ↓Zij, ↓Zik, ↓Zil, ↓Zim, ↓Zin, ↓Zio, ↓Ziq, ↓Zir, ↓Zis, ↓Zit, ↓Ziu, ↓Ziv, ↓Ziw, ↓Zix, ↓Ziy, ↓Ziz, ↓Zja, ↓Zjb, ↓Zjc, ↓Zjd, ↓Zje, ↓Zjf, ↓Zjg, ↓Zjh, ↓Zji, ↓Zjj, ↓Zjk, ↓Zjl, ↓Zjm, ↓Zjn, ↓Zjo, ↓Zjp, ↓Zjq, ↓Zjr, ↓Zjs, ↓Zjt, ↓Zju, ↓Zjv, ↓Zjw, ↓Zjx, ↓Zjy, ↓Zjz, ↓Zka, ↓Zkb, ↓Zkc, ↓Zkd, ↓Zke, ↓Zkf, ↓Zkg, ↓Zkh, ↓Zki, ↓Zkj, ↓Zkk, ↓Zkl, ↓Zkm, ↓Zkn, ↓Zko, ↓Zkp, ↓Zkq, ↓Zkr, ↓Zks, ↓Zkt, ↓Zku, ↓Zkv, ↓Zkw, ↓Zkx, ↓Zky, ↓Zkz, reduceIte, if_true, if_false, Bool.false_eq_true, Bool.and_true, Bool.true_and, Bool.and_false, Bool.false_and, Bool.or_true, Bool.true_or, Bool.or_false, Bool.false_or, Int.cast_ofNat_Int, Zla, Zlb, beq_self_eq_true, Int.reduceBEq, Int.reduceLT, Int.reduceLE, Int.reduceEq, Int.reduceNeg, Nat.reduceLT, Zlc, Zld, Zle, Zlf, Zlg, Zlh, Zli, Zlj, Zlk, Zll, Zlm, Zln, Zlo, Zlp, Zlq, Zlr, Zls, Zlt, Zlu, Zlv, Zlw, Zlx, Zly, Zlz, Zma, Zmb, Zmc, Zmd, Zme, Zmf, Zmg, Zmh, Zmi, Zmj, Zmk, Zml, Zmm, Zmn, Zmo, Zmp, Zmq, Zmr, Zms, Zmt, Zmu, Zmv, Zmw, Zmx, Zmy, Zmz, Zna, Znb, Znc, Znd, Zne, Znf, Zng, Znh, Zni, Znj, Znk, Znl, Znm, Znn, Zno, List.lookup_nil, Znp, Znq, Option.map_some, Option.map_none, Option.bind_some, Option.bind_none, List.map_nil, List.map_cons, List.nil_append, List.cons_append, List.append_nil, List.length_cons, List.length_nil, Nat.reduceAdd, Nat.reduceLeDiff, Nat.reduceEqDiff, Nat.reduceBEq, decide_true, decide_false, Bool.not_true, Bool.not_false, Znr, Zns, Znt, Znu, Znv, Znw, Znx, Zny, Znz, Zoa, Zob, Zoc, Zod, Zoe, List.getElem?_cons_zero, List.getElem?_cons_succ, Zof, Zog, Zoh, Zoi, Zoj, Zok, Zol, Zom, Zon, Zoo, Zop, Zoq, Zor, Zos, Zot, Zou, Zov, Zow, Zox, Zoy, setX, Zoz, Zpa, Zpb, Int.ofNat_lt, Int.ofNat_le, Zpc, Zpd, Zpe, Zpf, Zpg, Zph]
theorem lper_bad {d x : D} (h : φ_check_word [.val d] = .ex ⟨1, []⟩ []) : φ_local_period [.val d, .val x] = .ex ⟨1, []⟩ [] := by
  apply run_local_period
  unfold g_local_period
  simp -implicitDefEqProofs -dsimp only [↓Zaa, ↓Zab, ↓Zac, ↓Zad, ↓Zae, ↓Zaf, ↓Zag, ↓Zah, ↓Zai, ↓Zaj, ↓Zak, ↓Zal, ↓Zam, ↓Zan, ↓Zao, ↓Zap, ↓Zaq, ↓Zar, ↓Zas, ↓Zat, ↓Zau, ↓Zav, ↓Zaw, ↓Zax, ↓Zay, ↓Zaz, ↓Zba, ↓Zbb, ↓Zbc, ↓Zbd, ↓Zbe, ↓Zbf, ↓Zbg, ↓Zbh, ↓Zbi, ↓Zbj, ↓Zbk, ↓Zbl, ↓Zbm, ↓Zbn, ↓Zbo, ↓Zbp, ↓Zbq, ↓Zbr, ↓Zbs, ↓Zbt, ↓Zbu, ↓Zbv, ↓Zbw, ↓Zbx, ↓Zby, ↓Zbz, ↓Zca, ↓Zcb, ↓Zcc, ↓Zcd, ↓Zce, ↓Zcf, ↓Zcg, ↓Zch, ↓Zci, ↓Zcj, ↓Zck, ↓Zcl, ↓Zcm, ↓Zcn, ↓Zco, ↓Zcp, ↓Zcq, ↓Zcr, ↓Zcs, ↓Zct, ↓Zcu, ↓Zcv, ↓Zcw, ↓Zcx, ↓Zcy, ↓Zcz, ↓Zda, ↓Zdb, ↓Zdc, ↓Zdd, ↓Zde, ↓Zdf, ↓Zdg, ↓Zdh, ↓Zdi, ↓Zdj, ↓Zdk, ↓Zdl, ↓Zdm, ↓Zdn, ↓Zdo, ↓Zdp, ↓Zdq, ↓Zdr, ↓Zds, ↓Zdt, ↓Zdu, ↓Zdv, ↓Zdw, ↓Zdx, ↓Zdy, ↓Zdz, ↓Zea, ↓Zeb, ↓Zec, ↓Zed, ↓Zee, ↓Zef, ↓Zeg, ↓Zeh, ↓Zei, ↓Zej, ↓Zek, ↓Zel, ↓Zem, ↓Zen, ↓Zeo, ↓Zep, ↓Zeq, ↓Zer, ↓Zes, ↓Zet, ↓Zeu, ↓Zev, ↓Zew, ↓Zex, ↓Zey, ↓Zez, ↓Zfa, ↓Zfb, ↓Zfc, ↓Zfd, ↓Zfe, ↓Zff, ↓Zfg, ↓Zfh, ↓Zfi, ↓Zfj, ↓Zfk, ↓Zfl, ↓Zfm, ↓Zfn, ↓Zfo, ↓Zfp, ↓Zfq, ↓Zfr, ↓Zfs, ↓Zft, ↓Zfu, ↓Zfv, ↓Zfw, ↓Zfx, ↓Zfy, ↓Zfz, ↓Zga, ↓Zgb, ↓Zgc, ↓Zgd, ↓Zge, ↓Zgf, ↓Zgg, ↓Zgh, ↓Zgi, ↓Zgj, ↓Zgk, ↓Zgl, ↓Zgm, ↓Zgn, ↓Zgo, ↓Zgp, ↓Zgq, ↓Zgr, ↓Zgs, ↓Zgt, ↓Zgu, ↓Zgv, ↓Zgw, ↓Zgx, ↓Zgy, ↓Zgz, ↓Zha, ↓Zhb, ↓Zhc, ↓Zhd, ↓Zhe, ↓Zhf, ↓Zhg, ↓Zhh, ↓Zhi, ↓Zhj, ↓Zhk, ↓Zhl, ↓Zhm, ↓Zhn, ↓Zho, ↓Zhp, ↓Zhq, ↓Zhr, ↓Zhs, ↓Zht, ↓Zhu, ↓Zhv, ↓Zhw, ↓Zhx, ↓Zhy, ↓Zhz, ↓Zia, ↓Zib, ↓Zic, ↓Zid, ↓Zie, ↓Zif, ↓Zig, ↓Zih, ↓Zii, ↓Zij, ↓Zik, ↓Zil, ↓Zim, ↓Zin, ↓Zio, ↓Ziq, ↓Zir, ↓Zis, ↓Zit, ↓Ziu, ↓Ziv, ↓Ziw, ↓Zix, ↓Ziy, ↓Ziz, ↓Zja, ↓Zjb, ↓Zjc, ↓Zjd, ↓Zje, ↓Zjf, ↓Zjg, ↓Zjh, ↓Zji, ↓Zjj, ↓Zjk, ↓Zjl, ↓Zjm, ↓Zjn, ↓Zjo, ↓Zjp, ↓Zjq, ↓Zjr, ↓Zjs, ↓Zjt, ↓Zju, ↓Zjv, ↓Zjw, ↓Zjx, ↓Zjy, ↓Zjz, ↓Zka, ↓Zkb, ↓Zkc, ↓Zkd, ↓Zke, ↓Zkf, ↓Zkg, ↓Zkh, ↓Zki, ↓Zkj, ↓Zkk, ↓Zkl, ↓Zkm, ↓Zkn, ↓Zko, ↓Zkp, ↓Zkq, ↓Zkr, ↓Zks, ↓Zkt, ↓Zku, ↓Zkv, ↓Zkw, ↓Zkx, ↓Zky, ↓Zkz, reduceIte, if_true, if_false, Bool.false_eq_true, Bool.and_true, Bool.true_and, Bool.and_false, Bool.false_and, Bool.or_true, Bool.true_or, Bool.or_false, Bool.false_or, Int.cast_ofNat_Int, Zla, Zlb, beq_self_eq_true, Int.reduceBEq, Int.reduceLT, Int.reduceLE, Int.reduceEq, Int.reduceNeg, Nat.reduceLT, Zlc, Zld, Zle, Zlf, Zlg, Zlh, Zli, Zlj, Zlk, Zll, Zlm, Zln, Zlo, Zlp, Zlq, Zlr, Zls, Zlt, Zlu, Zlv, Zlw, Zlx, Zly, Zlz, Zma, Zmb, Zmc, Zmd, Zme, Zmf, Zmg, Zmh, Zmi, Zmj, Zmk, Zml, Zmm, Zmn, Zmo, Zmp, Zmq, Zmr, Zms, Zmt, Zmu, Zmv, Zmw, Zmx, Zmy, Zmz, Zna, Znb, Znc, Znd, Zne, Znf, Zng, Znh, Zni, Znj, Znk, Znl, Znm, Znn, Zno, List.lookup_nil, Znp, Znq, Option.map_some, Option.map_none, Option.bind_some, Option.bind_none, List.map_nil, List.map_cons, List.nil_append, List.cons_append, List.append_nil, List.length_cons, List.length_nil, Nat.reduceAdd, Nat.reduceLeDiff, Nat.reduceEqDiff, Nat.reduceBEq, decide_true, decide_false, Bool.not_true, Bool.not_false, Znr, Zns, Znt, Znu, Znv, Znw, Znx, Zny, Znz, Zoa, Zob, Zoc, Zod, Zoe, List.getElem?_cons_zero, List.getElem?_cons_succ, Zof, Zog, Zoh, Zoi, Zoj, Zok, Zol, Zom, Zon, Zoo, Zop, Zoq, Zor, Zos, Zot, Zou, Zov, Zow, Zox, Zoy, setX, Zoz, Zpa, Zpb, Int.ofNat_lt, Int.ofNat_le, Zpc, Zpd, Zpe, Zpf, Zpg, Zph, h]
theorem lper_no {x : D} {w : List Nat} (hw : Wd w) (h : φ_is_integer [.val x] = .ok (.d (.bl false)) []) : φ_local_period [.val (.str w), .val x] = .ex ⟨1, []⟩ [] := by
  apply run_local_period
  unfold g_local_period
  simp -implicitDefEqProofs -dsimp only [↓Zaa, ↓Zab, ↓Zac, ↓Zad, ↓Zae, ↓Zaf, ↓Zag, ↓Zah, ↓Zai, ↓Zaj, ↓Zak, ↓Zal, ↓Zam, ↓Zan, ↓Zao, ↓Zap, ↓Zaq, ↓Zar, ↓Zas, ↓Zat, ↓Zau, ↓Zav, ↓Zaw, ↓Zax, ↓Zay, ↓Zaz, ↓Zba, ↓Zbb, ↓Zbc, ↓Zbd, ↓Zbe, ↓Zbf, ↓Zbg, ↓Zbh, ↓Zbi, ↓Zbj, ↓Zbk, ↓Zbl, ↓Zbm, ↓Zbn, ↓Zbo, ↓Zbp, ↓Zbq, ↓Zbr, ↓Zbs, ↓Zbt, ↓Zbu, ↓Zbv, ↓Zbw, ↓Zbx, ↓Zby, ↓Zbz, ↓Zca, ↓Zcb, ↓Zcc, ↓Zcd, ↓Zce, ↓Zcf, ↓Zcg, ↓Zch, ↓Zci, ↓Zcj, ↓Zck, ↓Zcl, ↓Zcm, ↓Zcn, ↓Zco, ↓Zcp, ↓Zcq, ↓Zcr, ↓Zcs, ↓Zct, ↓Zcu, ↓Zcv, ↓Zcw, ↓Zcx, ↓Zcy, ↓Zcz, ↓Zda, ↓Zdb, ↓Zdc, ↓Zdd, ↓Zde, ↓Zdf, ↓Zdg, ↓Zdh, ↓Zdi, ↓Zdj, ↓Zdk, ↓Zdl, ↓Zdm, ↓Zdn, ↓Zdo, ↓Zdp, ↓Zdq, ↓Zdr, ↓Zds, ↓Zdt, ↓Zdu, ↓Zdv, ↓Zdw, ↓Zdx, ↓Zdy, ↓Zdz, ↓Zea, ↓Zeb, ↓Zec, ↓Zed, ↓Zee, ↓Zef, ↓Zeg, ↓Zeh, ↓Zei, ↓Zej, ↓Zek, ↓Zel, ↓Zem, ↓Zen, ↓Zeo, ↓Zep, ↓Zeq, ↓Zer, ↓Zes, ↓Zet, ↓Zeu, ↓Zev, ↓Zew, ↓Zex, ↓Zey, ↓Zez, ↓Zfa, ↓Zfb, ↓Zfc, ↓Zfd, ↓Zfe, ↓Zff, ↓Zfg, ↓Zfh, ↓Zfi, ↓Zfj, ↓Zfk, ↓Zfl, ↓Zfm, ↓Zfn, ↓Zfo, ↓Zfp, ↓Zfq, ↓Zfr, ↓Zfs, ↓Zft, ↓Zfu, ↓Zfv, ↓Zfw, ↓Zfx, ↓Zfy, ↓Zfz, ↓Zga, ↓Zgb, ↓Zgc, ↓Zgd, ↓Zge, ↓Zgf, ↓Zgg, ↓Zgh, ↓Zgi, ↓Zgj, ↓Zgk, ↓Zgl, ↓Zgm, ↓Zgn, ↓Zgo, ↓Zgp, ↓Zgq, ↓Zgr, ↓Zgs, ↓Zgt, ↓Zgu, ↓Zgv, ↓Zgw, ↓Zgx, ↓Zgy, ↓Zgz, ↓Zha, ↓Zhb, ↓Zhc, ↓Zhd, ↓Zhe, ↓Zhf, ↓Zhg, ↓Zhh, ↓Zhi, ↓Zhj, ↓Zhk, ↓Zhl, ↓Zhm, ↓Zhn, ↓Zho, ↓Zhp, ↓Zhq, ↓Zhr, ↓Zhs, ↓Zht, ↓Zhu, ↓Zhv, ↓Zhw, ↓Zhx, ↓Zhy, ↓Zhz, ↓Zia, ↓Zib, ↓Zic, ↓Zid, ↓Zie, ↓Zif, ↓Zig, ↓Zih, ↓Zii, ↓Zij, ↓Zik, ↓Zil, ↓Zim, ↓Zin, ↓Zio, ↓Ziq, ↓Zir, ↓Zis, ↓Zit, ↓Ziu, ↓Ziv, ↓Ziw, ↓Zix, ↓Ziy, ↓Ziz, ↓Zja, ↓Zjb, ↓Zjc, ↓Zjd, ↓Zje, ↓Zjf, ↓Zjg, ↓Zjh, ↓Zji, ↓Zjj, ↓Zjk, ↓Zjl, ↓Zjm, ↓Zjn, ↓Zjo, ↓Zjp, ↓Zjq, ↓Zjr, ↓Zjs, ↓Zjt, ↓Zju, ↓Zjv, ↓Zjw, ↓Zjx, ↓Zjy, ↓Zjz, ↓Zka, ↓Zkb, ↓Zkc, ↓Zkd, ↓Zke, ↓Zkf, ↓Zkg, ↓Zkh, ↓Zki, ↓Zkj, ↓Zkk, ↓Zkl, ↓Zkm, ↓Zkn, ↓Zko, ↓Zkp, ↓Zkq, ↓Zkr, ↓Zks, ↓Zkt, ↓Zku, ↓Zkv, ↓Zkw, ↓Zkx, ↓Zky, ↓Zkz, reduceIte, if_true, if_false, Bool.false_eq_true, Bool.and_true, Bool.true_and, Bool.and_false, Bool.false_and, Bool.or_true, Bool.true_or, Bool.or_false, Bool.false_or, Int.cast_ofNat_Int, Zla, Zlb, beq_self_eq_true, Int.reduceBEq, Int.reduceLT, Int.reduceLE, Int.reduceEq, Int.reduceNeg, Nat.reduceLT, Zlc, Zld, Zle, Zlf, Zlg, Zlh, Zli, Zlj, Zlk, Zll, Zlm, Zln, Zlo, Zlp, Zlq, Zlr, Zls, Zlt, Zlu, Zlv, Zlw, Zlx, Zly, Zlz, Zma, Zmb, Zmc, Zmd, Zme, Zmf, Zmg, Zmh, Zmi, Zmj, Zmk, Zml, Zmm, Zmn, Zmo, Zmp, Zmq, Zmr, Zms, Zmt, Zmu, Zmv, Zmw, Zmx, Zmy, Zmz, Zna, Znb, Znc, Znd, Zne, Znf, Zng, Znh, Zni, Znj, Znk, Znl, Znm, Znn, Zno, List.lookup_nil, Znp, Znq, Option.map_some, Option.map_none, Option.bind_some, Option.bind_none, List.map_nil, List.map_cons, List.nil_append, List.cons_append, List.append_nil, List.length_cons, List.length_nil, Nat.reduceAdd, Nat.reduceLeDiff, Nat.reduceEqDiff, Nat.reduceBEq, decide_true, decide_false, Bool.not_true, Bool.not_false, Znr, Zns, Znt, Znu, Znv, Znw, Znx, Zny, Znz, Zoa, Zob, Zoc, Zod, Zoe, List.getElem?_cons_zero, List.getElem?_cons_succ, Zof, Zog, Zoh, Zoi, Zoj, Zok, Zol, Zom, Zon, Zoo, Zop, Zoq, Zor, Zos, Zot, Zou, Zov, Zow, Zox, Zoy, setX, Zoz, Zpa, Zpb, Int.ofNat_lt, Int.ofNat_le, Zpc, Zpd, Zpe, Zpf, Zpg, Zph, q_check hw, h]
theorem lper_out {i : Int} {w : List Nat} (hw : Wd w) (h : ¬ (0 < i ∧ i < w.length)) : φ_local_period [.val (.str w), .val (.int i)] = .ex ⟨1, []⟩ [] := by
  apply run_local_period
  unfold g_local_period
  have hl := hw.len
  have hl2 : w.length ≤ 16777216 := by omega
  by_cases h1 : 0 < i
  · have e1 : decide (0 < i) = true := decide_eq_true h1
    have e2 : decide (i < (w.length : Int)) = false := decide_eq_false fun z => h ⟨h1, z⟩
    simp -implicitDefEqProofs -dsimp only [↓Zaa, ↓Zab, ↓Zac, ↓Zad, ↓Zae, ↓Zaf, ↓Zag, ↓Zah, ↓Zai, ↓Zaj, ↓Zak, ↓Zal, ↓Zam, ↓Zan, ↓Zao, ↓Zap, ↓Zaq, ↓Zar, ↓Zas, ↓Zat, ↓Zau, ↓Zav, ↓Zaw, ↓Zax, ↓Zay, ↓Zaz, ↓Zba, ↓Zbb, ↓Zbc, ↓Zbd, ↓Zbe, ↓Zbf, ↓Zbg, ↓Zbh, ↓Zbi, ↓Zbj, ↓Zbk, ↓Zbl, ↓Zbm, ↓Zbn, ↓Zbo, ↓Zbp, ↓Zbq, ↓Zbr, ↓Zbs, ↓Zbt, ↓Zbu, ↓Zbv, ↓Zbw, ↓Zbx, ↓Zby, ↓Zbz, ↓Zca, ↓Zcb, ↓Zcc, ↓Zcd, ↓Zce, ↓Zcf, ↓Zcg, ↓Zch, ↓Zci, ↓Zcj, ↓Zck, ↓Zcl, ↓Zcm, ↓Zcn, ↓Zco, ↓Zcp, ↓Zcq, ↓Zcr, ↓Zcs, ↓Zct, ↓Zcu, ↓Zcv, ↓Zcw, ↓Zcx, ↓Zcy, ↓Zcz, ↓Zda, ↓Zdb, ↓Zdc, ↓Zdd, ↓Zde, ↓Zdf, ↓Zdg, ↓Zdh, ↓Zdi, ↓Zdj, ↓Zdk, ↓Zdl, ↓Zdm, ↓Zdn, ↓Zdo, ↓Zdp, ↓Zdq, ↓Zdr, ↓Zds, ↓Zdt, ↓Zdu, ↓Zdv, ↓Zdw, ↓Zdx, ↓Zdy, ↓Zdz, ↓Zea, ↓Zeb, ↓Zec, ↓Zed, ↓Zee, ↓Zef, ↓Zeg, ↓Zeh, ↓Zei, ↓Zej, ↓Zek, ↓Zel, ↓Zem, ↓Zen, ↓Zeo, ↓Zep, ↓Zeq, ↓Zer, ↓Zes, ↓Zet, ↓Zeu, ↓Zev, ↓Zew, ↓Zex, ↓Zey, ↓Zez, ↓Zfa, ↓Zfb, ↓Zfc, ↓Zfd, ↓Zfe, ↓Zff, ↓Zfg, ↓Zfh, ↓Zfi, ↓Zfj, ↓Zfk, ↓Zfl, ↓Zfm, ↓Zfn, ↓Zfo, ↓Zfp, ↓Zfq, ↓Zfr, ↓Zfs, ↓Zft, ↓Zfu, ↓Zfv, ↓Zfw, ↓Zfx, ↓Zfy, ↓Zfz, ↓Zga, ↓Zgb, ↓Zgc, ↓Zgd, ↓Zge, ↓Zgf, ↓Zgg, ↓Zgh, ↓Zgi, ↓Zgj, ↓Zgk, ↓Zgl, ↓Zgm, ↓Zgn, ↓Zgo, ↓Zgp, ↓Zgq, ↓Zgr, ↓Zgs, ↓Zgt, ↓Zgu, ↓Zgv, ↓Zgw, ↓Zgx, ↓Zgy, ↓Zgz, ↓Zha, ↓Zhb, ↓Zhc, ↓Zhd, ↓Zhe, ↓Zhf, ↓Zhg, ↓Zhh, ↓Zhi, ↓Zhj, ↓Zhk, ↓Zhl, ↓Zhm, ↓Zhn, ↓Zho, ↓Zhp, ↓Zhq, ↓Zhr, ↓Zhs, ↓Zht, ↓Zhu, ↓Zhv, ↓Zhw, ↓Zhx, ↓Zhy, ↓Zhz, ↓Zia, ↓Zib, ↓Zic, ↓Zid, ↓Zie, ↓Zif, ↓Zig, ↓Zih, ↓Zii, ↓Zij, ↓Zik, ↓Zil, ↓Zim, ↓Zin, ↓Zio, ↓Ziq, ↓Zir, ↓Zis, ↓Zit, ↓Ziu, ↓Ziv, ↓Ziw, ↓Zix, ↓Ziy, ↓Ziz, ↓Zja, ↓Zjb, ↓Zjc, ↓Zjd, ↓Zje, ↓Zjf, ↓Zjg, ↓Zjh, ↓Zji, ↓Zjj, ↓Zjk, ↓Zjl, ↓Zjm, ↓Zjn, ↓Zjo, ↓Zjp, ↓Zjq, ↓Zjr, ↓Zjs, ↓Zjt, ↓Zju, ↓Zjv, ↓Zjw, ↓Zjx, ↓Zjy, ↓Zjz, ↓Zka, ↓Zkb, ↓Zkc, ↓Zkd, ↓Zke, ↓Zkf, ↓Zkg, ↓Zkh, ↓Zki, ↓Zkj, ↓Zkk, ↓Zkl, ↓Zkm, ↓Zkn, ↓Zko, ↓Zkp, ↓Zkq, ↓Zkr, ↓Zks, ↓Zkt, ↓Zku, ↓Zkv, ↓Zkw, ↓Zkx, ↓Zky, ↓Zkz, reduceIte, if_true, if_false, Bool.false_eq_true, Bool.and_true, Bool.true_and, Bool.and_false, Bool.false_and, Bool.or_true, Bool.true_or, Bool.or_false, Bool.false_or, Int.cast_ofNat_Int, Zla, Zlb, beq_self_eq_true, Int.reduceBEq, Int.reduceLT, Int.reduceLE, Int.reduceEq, Int.reduceNeg, Nat.reduceLT, Zlc, Zld, Zle, Zlf, Zlg, Zlh, Zli, Zlj, Zlk, Zll, Zlm, Zln, Zlo, Zlp, Zlq, Zlr, Zls, Zlt, Zlu, Zlv, Zlw, Zlx, Zly, Zlz, Zma, Zmb, Zmc, Zmd, Zme, Zmf, Zmg, Zmh, Zmi, Zmj, Zmk, Zml, Zmm, Zmn, Zmo, Zmp, Zmq, Zmr, Zms, Zmt, Zmu, Zmv, Zmw, Zmx, Zmy, Zmz, Zna, Znb, Znc, Znd, Zne, Znf, Zng, Znh, Zni, Znj, Znk, Znl, Znm, Znn, Zno, List.lookup_nil, Znp, Znq, Option.map_some, Option.map_none, Option.bind_some, Option.bind_none, List.map_nil, List.map_cons, List.nil_append, List.cons_append, List.append_nil, List.length_cons, List.length_nil, Nat.reduceAdd, Nat.reduceLeDiff, Nat.reduceEqDiff, Nat.reduceBEq, decide_true, decide_false, Bool.not_true, Bool.not_false, Znr, Zns, Znt, Znu, Znv, Znw, Znx, Zny, Znz, Zoa, Zob, Zoc, Zod, Zoe, List.getElem?_cons_zero, List.getElem?_cons_succ, Zof, Zog, Zoh, Zoi, Zoj, Zok, Zol, Zom, Zon, Zoo, Zop, Zoq, Zor, Zos, Zot, Zou, Zov, Zow, Zox, Zoy, setX, Zoz, Zpa, Zpb, Int.ofNat_lt, Int.ofNat_le, Zpc, Zpd, Zpe, Zpf, Zpg, Zph, q_check hw, q_isinteger, e1, bLen_s hl2, e2]
  · have e1 : decide (0 < i) = false := decide_eq_false h1
    simp -implicitDefEqProofs -dsimp only [↓Zaa, ↓Zab, ↓Zac, ↓Zad, ↓Zae, ↓Zaf, ↓Zag, ↓Zah, ↓Zai, ↓Zaj, ↓Zak, ↓Zal, ↓Zam, ↓Zan, ↓Zao, ↓Zap, ↓Zaq, ↓Zar, ↓Zas, ↓Zat, ↓Zau, ↓Zav, ↓Zaw, ↓Zax, ↓Zay, ↓Zaz, ↓Zba, ↓Zbb, ↓Zbc, ↓Zbd, ↓Zbe, ↓Zbf, ↓Zbg, ↓Zbh, ↓Zbi, ↓Zbj, ↓Zbk, ↓Zbl, ↓Zbm, ↓Zbn, ↓Zbo, ↓Zbp, ↓Zbq, ↓Zbr, ↓Zbs, ↓Zbt, ↓Zbu, ↓Zbv, ↓Zbw, ↓Zbx, ↓Zby, ↓Zbz, ↓Zca, ↓Zcb, ↓Zcc, ↓Zcd, ↓Zce, ↓Zcf, ↓Zcg, ↓Zch, ↓Zci, ↓Zcj, ↓Zck, ↓Zcl, ↓Zcm, ↓Zcn, ↓Zco, ↓Zcp, ↓Zcq, ↓Zcr, ↓Zcs, ↓Zct, ↓Zcu, ↓Zcv, ↓Zcw, ↓Zcx, ↓Zcy, ↓Zcz, ↓Zda, ↓Zdb, ↓Zdc, ↓Zdd, ↓Zde, ↓Zdf, ↓Zdg, ↓Zdh, ↓Zdi, ↓Zdj, ↓Zdk, ↓Zdl, ↓Zdm, ↓Zdn, ↓Zdo, ↓Zdp, ↓Zdq, ↓Zdr, ↓Zds, ↓Zdt, ↓Zdu, ↓Zdv, ↓Zdw, ↓Zdx, ↓Zdy, ↓Zdz, ↓Zea, ↓Zeb, ↓Zec, ↓Zed, ↓Zee, ↓Zef, ↓Zeg, ↓Zeh, ↓Zei, ↓Zej, ↓Zek, ↓Zel, ↓Zem, ↓Zen, ↓Zeo, ↓Zep, ↓Zeq, ↓Zer, ↓Zes, ↓Zet, ↓Zeu, ↓Zev, ↓Zew, ↓Zex, ↓Zey, ↓Zez, ↓Zfa, ↓Zfb, ↓Zfc, ↓Zfd, ↓Zfe, ↓Zff, ↓Zfg, ↓Zfh, ↓Zfi, ↓Zfj, ↓Zfk, ↓Zfl, ↓Zfm, ↓Zfn, ↓Zfo, ↓Zfp, ↓Zfq, ↓Zfr, ↓Zfs, ↓Zft, ↓Zfu, ↓Zfv, ↓Zfw, ↓Zfx, ↓Zfy, ↓Zfz, ↓Zga, ↓Zgb, ↓Zgc, ↓Zgd, ↓Zge, ↓Zgf, ↓Zgg, ↓Zgh, ↓Zgi, ↓Zgj, ↓Zgk, ↓Zgl, ↓Zgm, ↓Zgn, ↓Zgo, ↓Zgp, ↓Zgq, ↓Zgr, ↓Zgs, ↓Zgt, ↓Zgu, ↓Zgv, ↓Zgw, ↓Zgx, ↓Zgy, ↓Zgz, ↓Zha, ↓Zhb, ↓Zhc, ↓Zhd, ↓Zhe, ↓Zhf, ↓Zhg, ↓Zhh, ↓Zhi, ↓Zhj, ↓Zhk, ↓Zhl, ↓Zhm, ↓Zhn, ↓Zho, ↓Zhp, ↓Zhq, ↓Zhr, ↓Zhs, ↓Zht, ↓Zhu, ↓Zhv, ↓Zhw, ↓Zhx, ↓Zhy, ↓Zhz, ↓Zia, ↓Zib, ↓Zic, ↓Zid, ↓Zie, ↓Zif, ↓Zig, ↓Zih, ↓Zii, ↓Zij, ↓Zik, ↓Zil, ↓Zim, ↓Zin, ↓Zio, ↓Ziq, ↓Zir, ↓Zis, ↓Zit, ↓Ziu, ↓Ziv, ↓Ziw, ↓Zix, ↓Ziy, ↓Ziz, ↓Zja, ↓Zjb, ↓Zjc, ↓Zjd, ↓Zje, ↓Zjf, ↓Zjg, ↓Zjh, ↓Zji, ↓Zjj, ↓Zjk, ↓Zjl, ↓Zjm, ↓Zjn, ↓Zjo, ↓Zjp, ↓Zjq, ↓Zjr, ↓Zjs, ↓Zjt, ↓Zju, ↓Zjv, ↓Zjw, ↓Zjx, ↓Zjy, ↓Zjz, ↓Zka, ↓Zkb, ↓Zkc, ↓Zkd, ↓Zke, ↓Zkf, ↓Zkg, ↓Zkh, ↓Zki, ↓Zkj, ↓Zkk, ↓Zkl, ↓Zkm, ↓Zkn, ↓Zko, ↓Zkp, ↓Zkq, ↓Zkr, ↓Zks, ↓Zkt, ↓Zku, ↓Zkv, ↓Zkw, ↓Zkx, ↓Zky, ↓Zkz, reduceIte, if_true, if_false, Bool.false_eq_true, Bool.and_true, Bool.true_and, Bool.and_false, Bool.false_and, Bool.or_true, Bool.true_or, Bool.or_false, Bool.false_or, Int.cast_ofNat_Int, Zla, Zlb, beq_self_eq_true, Int.reduceBEq, Int.reduceLT, Int.reduceLE, Int.reduceEq, Int.reduceNeg, Nat.reduceLT, Zlc, Zld, Zle, Zlf, Zlg, Zlh, Zli, Zlj, Zlk, Zll, Zlm, Zln, Zlo, Zlp, Zlq, Zlr, Zls, Zlt, Zlu, Zlv, Zlw, Zlx, Zly, Zlz, Zma, Zmb, Zmc, Zmd, Zme, Zmf, Zmg, Zmh, Zmi, Zmj, Zmk, Zml, Zmm, Zmn, Zmo, Zmp, Zmq, Zmr, Zms, Zmt, Zmu, Zmv, Zmw, Zmx, Zmy, Zmz, Zna, Znb, Znc, Znd, Zne, Znf, Zng, Znh, Zni, Znj, Znk, Znl, Znm, Znn, Zno, List.lookup_nil, Znp, Znq, Option.map_some, Option.map_none, Option.bind_some, Option.bind_none, List.map_nil, List.map_cons, List.nil_append, List.cons_append, List.append_nil, List.length_cons, List.length_nil, Nat.reduceAdd, Nat.reduceLeDiff, Nat.reduceEqDiff, Nat.reduceBEq, decide_true, decide_false, Bool.not_true, Bool.not_false, Znr, Zns, Znt, Znu, Znv, Znw, Znx, Zny, Znz, Zoa, Zob, Zoc, Zod, Zoe, List.getElem?_cons_zero, List.getElem?_cons_succ, Zof, Zog, Zoh, Zoi, Zoj, Zok, Zol, Zom, Zon, Zoo, Zop, Zoq, Zor, Zos, Zot, Zou, Zov, Zow, Zox, Zoy, setX, Zoz, Zpa, Zpb, Int.ofNat_lt, Int.ofNat_le, Zpc, Zpd, Zpe, Zpf, Zpg, Zph, q_check hw, q_isinteger, e1, bLen_s hl2]
theorem no_int {d : D} (h : List.lookup (kd d) [(0, false), (1, true), (2, true), (3, false), (4, false), (5, false)] = some false) : φ_is_integer [.val d] = .ok (.d (.bl false)) [] := by
  apply run_is_integer
  unfold g_is_integer
  simp -implicitDefEqProofs -dsimp only [↓Zaa, ↓Zab, ↓Zac, ↓Zad, ↓Zae, ↓Zaf, ↓Zag, ↓Zah, ↓Zai, ↓Zaj, ↓Zak, ↓Zal, ↓Zam, ↓Zan, ↓Zao, ↓Zap, ↓Zaq, ↓Zar, ↓Zas, ↓Zat, ↓Zau, ↓Zav, ↓Zaw, ↓Zax, ↓Zay, ↓Zaz, ↓Zba, ↓Zbb, ↓Zbc, ↓Zbd, ↓Zbe, ↓Zbf, ↓Zbg, ↓Zbh, ↓Zbi, ↓Zbj, ↓Zbk, ↓Zbl, ↓Zbm, ↓Zbn, ↓Zbo, ↓Zbp, ↓Zbq, ↓Zbr, ↓Zbs, ↓Zbt, ↓Zbu, ↓Zbv, ↓Zbw, ↓Zbx, ↓Zby, ↓Zbz, ↓Zca, ↓Zcb, ↓Zcc, ↓Zcd, ↓Zce, ↓Zcf, ↓Zcg, ↓Zch, ↓Zci, ↓Zcj, ↓Zck, ↓Zcl, ↓Zcm, ↓Zcn, ↓Zco, ↓Zcp, ↓Zcq, ↓Zcr, ↓Zcs, ↓Zct, ↓Zcu, ↓Zcv, ↓Zcw, ↓Zcx, ↓Zcy, ↓Zcz, ↓Zda, ↓Zdb, ↓Zdc, ↓Zdd, ↓Zde, ↓Zdf, ↓Zdg, ↓Zdh, ↓Zdi, ↓Zdj, ↓Zdk, ↓Zdl, ↓Zdm, ↓Zdn, ↓Zdo, ↓Zdp, ↓Zdq, ↓Zdr, ↓Zds, ↓Zdt, ↓Zdu, ↓Zdv, ↓Zdw, ↓Zdx, ↓Zdy, ↓Zdz, ↓Zea, ↓Zeb, ↓Zec, ↓Zed, ↓Zee, ↓Zef, ↓Zeg, ↓Zeh, ↓Zei, ↓Zej, ↓Zek, ↓Zel, ↓Zem, ↓Zen, ↓Zeo, ↓Zep, ↓Zeq, ↓Zer, ↓Zes, ↓Zet, ↓Zeu, ↓Zev, ↓Zew, ↓Zex, ↓Zey, ↓Zez, ↓Zfa, ↓Zfb, ↓Zfc, ↓Zfd, ↓Zfe, ↓Zff, ↓Zfg, ↓Zfh, ↓Zfi, ↓Zfj, ↓Zfk, ↓Zfl, ↓Zfm, ↓Zfn, ↓Zfo, ↓Zfp, ↓Zfq, ↓Zfr, ↓Zfs, ↓Zft, ↓Zfu, ↓Zfv, ↓Zfw, ↓Zfx, ↓Zfy, ↓Zfz, ↓Zga, ↓Zgb, ↓Zgc, ↓Zgd, ↓Zge, ↓Zgf, ↓Zgg, ↓Zgh, ↓Zgi, ↓Zgj, ↓Zgk, ↓Zgl, ↓Zgm, ↓Zgn, ↓Zgo, ↓Zgp, ↓Zgq, ↓Zgr, ↓Zgs, ↓Zgt, ↓Zgu, ↓Zgv, ↓Zgw, ↓Zgx, ↓Zgy, ↓Zgz, ↓Zha, ↓Zhb, ↓Zhc, ↓Zhd, ↓Zhe, ↓Zhf, ↓Zhg, ↓Zhh, ↓Zhi, ↓Zhj, ↓Zhk, ↓Zhl, ↓Zhm, ↓Zhn, ↓Zho, ↓Zhp, ↓Zhq, ↓Zhr, ↓Zhs, ↓Zht, ↓Zhu, ↓Zhv, ↓Zhw, ↓Zhx, ↓Zhy, ↓Zhz, ↓Zia, ↓Zib, ↓Zic, ↓Zid, ↓Zie, ↓Zif, ↓Zig, ↓Zih, ↓Zii, ↓Zij, ↓Zik, ↓Zil, ↓Zim, ↓Zin, ↓Zio, ↓Ziq, ↓Zir, ↓Zis, ↓Zit, ↓Ziu, ↓Ziv, ↓Ziw, ↓Zix, ↓Ziy, ↓Ziz, ↓Zja, ↓Zjb, ↓Zjc, ↓Zjd, ↓Zje, ↓Zjf, ↓Zjg, ↓Zjh, ↓Zji, ↓Zjj, ↓Zjk, ↓Zjl, ↓Zjm, ↓Zjn, ↓Zjo, ↓Zjp, ↓Zjq, ↓Zjr, ↓Zjs, ↓Zjt, ↓Zju, ↓Zjv, ↓Zjw, ↓Zjx, ↓Zjy, ↓Zjz, ↓Zka, ↓Zkb, ↓Zkc, ↓Zkd, ↓Zke, ↓Zkf, ↓Zkg, ↓Zkh, ↓Zki, ↓Zkj, ↓Zkk, ↓Zkl, ↓Zkm, ↓Zkn, ↓Zko, ↓Zkp, ↓Zkq, ↓Zkr, ↓Zks, ↓Zkt, ↓Zku, ↓Zkv, ↓Zkw, ↓Zkx, ↓Zky, ↓Zkz, reduceIte, if_true, if_false, Bool.false_eq_true, Bool.and_true, Bool.true_and, Bool.and_false, Bool.false_and, Bool.or_true, Bool.true_or, Bool.or_false, Bool.false_or, Int.cast_ofNat_Int, Zla, Zlb, beq_self_eq_true, Int.reduceBEq, Int.reduceLT, Int.reduceLE, Int.reduceEq, Int.reduceNeg, Nat.reduceLT, Zlc, Zld, Zle, Zlf, Zlg, Zlh, Zli, Zlj, Zlk, Zll, Zlm, Zln, Zlo, Zlp, Zlq, Zlr, Zls, Zlt, Zlu, Zlv, Zlw, Zlx, Zly, Zlz, Zma, Zmb, Zmc, Zmd, Zme, Zmf, Zmg, Zmh, Zmi, Zmj, Zmk, Zml, Zmm, Zmn, Zmo, Zmp, Zmq, Zmr, Zms, Zmt, Zmu, Zmv, Zmw, Zmx, Zmy, Zmz, Zna, Znb, Znc, Znd, Zne, Znf, Zng, Znh, Zni, Znj, Znk, Znl, Znm, Znn, Zno, List.lookup_nil, Znp, Znq, Option.map_some, Option.map_none, Option.bind_some, Option.bind_none, List.map_nil, List.map_cons, List.nil_append, List.cons_append, List.append_nil, List.length_cons, List.length_nil, Nat.reduceAdd, Nat.reduceLeDiff, Nat.reduceEqDiff, Nat.reduceBEq, decide_true, decide_false, Bool.not_true, Bool.not_false, Znr, Zns, Znt, Znu, Znv, Znw, Znx, Zny, Znz, Zoa, Zob, Zoc, Zod, Zoe, List.getElem?_cons_zero, List.getElem?_cons_succ, Zof, Zog, Zoh, Zoi, Zoj, Zok, Zol, Zom, Zon, Zoo, Zop, Zoq, Zor, Zos, Zot, Zou, Zov, Zow, Zox, Zoy, setX, Zoz, Zpa, Zpb, Int.ofNat_lt, Int.ofNat_le, Zpc, Zpd, Zpe, Zpf, Zpg, Zph, h]
theorem no_bool {b : Bool} : φ_is_integer [.val (.bl b)] = .ok (.d (.bl false)) [] := by
  apply run_is_integer
  unfold g_is_integer
  simp -implicitDefEqProofs -dsimp only [↓Zaa, ↓Zab, ↓Zac, ↓Zad, ↓Zae, ↓Zaf, ↓Zag, ↓Zah, ↓Zai, ↓Zaj, ↓Zak, ↓Zal, ↓Zam, ↓Zan, ↓Zao, ↓Zap, ↓Zaq, ↓Zar, ↓Zas, ↓Zat, ↓Zau, ↓Zav, ↓Zaw, ↓Zax, ↓Zay, ↓Zaz, ↓Zba, ↓Zbb, ↓Zbc, ↓Zbd, ↓Zbe, ↓Zbf, ↓Zbg, ↓Zbh, ↓Zbi, ↓Zbj, ↓Zbk, ↓Zbl, ↓Zbm, ↓Zbn, ↓Zbo, ↓Zbp, ↓Zbq, ↓Zbr, ↓Zbs, ↓Zbt, ↓Zbu, ↓Zbv, ↓Zbw, ↓Zbx, ↓Zby, ↓Zbz, ↓Zca, ↓Zcb, ↓Zcc, ↓Zcd, ↓Zce, ↓Zcf, ↓Zcg, ↓Zch, ↓Zci, ↓Zcj, ↓Zck, ↓Zcl, ↓Zcm, ↓Zcn, ↓Zco, ↓Zcp, ↓Zcq, ↓Zcr, ↓Zcs, ↓Zct, ↓Zcu, ↓Zcv, ↓Zcw, ↓Zcx, ↓Zcy, ↓Zcz, ↓Zda, ↓Zdb, ↓Zdc, ↓Zdd, ↓Zde, ↓Zdf, ↓Zdg, ↓Zdh, ↓Zdi, ↓Zdj, ↓Zdk, ↓Zdl, ↓Zdm, ↓Zdn, ↓Zdo, ↓Zdp, ↓Zdq, ↓Zdr, ↓Zds, ↓Zdt, ↓Zdu, ↓Zdv, ↓Zdw, ↓Zdx, ↓Zdy, ↓Zdz, ↓Zea, ↓Zeb, ↓Zec, ↓Zed, ↓Zee, ↓Zef, ↓Zeg, ↓Zeh, ↓Zei, ↓Zej, ↓Zek, ↓Zel, ↓Zem, ↓Zen, ↓Zeo, ↓Zep, ↓Zeq, ↓Zer, ↓Zes, ↓Zet, ↓Zeu, ↓Zev, ↓Zew, ↓Zex, ↓Zey, ↓Zez, ↓Zfa, ↓Zfb, ↓Zfc, ↓Zfd, ↓Zfe, ↓Zff, ↓Zfg, ↓Zfh, ↓Zfi, ↓Zfj, ↓Zfk, ↓Zfl, ↓Zfm, ↓Zfn, ↓Zfo, ↓Zfp, ↓Zfq, ↓Zfr, ↓Zfs, ↓Zft, ↓Zfu, ↓Zfv, ↓Zfw, ↓Zfx, ↓Zfy, ↓Zfz, ↓Zga, ↓Zgb, ↓Zgc, ↓Zgd, ↓Zge, ↓Zgf, ↓Zgg, ↓Zgh, ↓Zgi, ↓Zgj, ↓Zgk, ↓Zgl, ↓Zgm, ↓Zgn, ↓Zgo, ↓Zgp, ↓Zgq, ↓Zgr, ↓Zgs, ↓Zgt, ↓Zgu, ↓Zgv, ↓Zgw, ↓Zgx, ↓Zgy, ↓Zgz, ↓Zha, ↓Zhb, ↓Zhc, ↓Zhd, ↓Zhe, ↓Zhf, ↓Zhg, ↓Zhh, ↓Zhi, ↓Zhj, ↓Zhk, ↓Zhl, ↓Zhm, ↓Zhn, ↓Zho, ↓Zhp, ↓Zhq, ↓Zhr, ↓Zhs, ↓Zht, ↓Zhu, ↓Zhv, ↓Zhw, ↓Zhx, ↓Zhy, ↓Zhz, ↓Zia, ↓Zib, ↓Zic, ↓Zid, ↓Zie, ↓Zif, ↓Zig, ↓Zih, ↓Zii, ↓Zij, ↓Zik, ↓Zil, ↓Zim, ↓Zin, ↓Zio, ↓Ziq, ↓Zir, ↓Zis, ↓Zit, ↓Ziu, ↓Ziv, ↓Ziw, ↓Zix, ↓Ziy, ↓Ziz, ↓Zja, ↓Zjb, ↓Zjc, ↓Zjd, ↓Zje, ↓Zjf, ↓Zjg, ↓Zjh, ↓Zji, ↓Zjj, ↓Zjk, ↓Zjl, ↓Zjm, ↓Zjn, ↓Zjo, ↓Zjp, ↓Zjq, ↓Zjr, ↓Zjs, ↓Zjt, ↓Zju, ↓Zjv, ↓Zjw, ↓Zjx, ↓Zjy, ↓Zjz, ↓Zka, ↓Zkb, ↓Zkc, ↓Zkd, ↓Zke, ↓Zkf, ↓Zkg, ↓Zkh, ↓Zki, ↓Zkj, ↓Zkk, ↓Zkl, ↓Zkm, ↓Zkn, ↓Zko, ↓Zkp, ↓Zkq, ↓Zkr, ↓Zks, ↓Zkt, ↓Zku, ↓Zkv, ↓Zkw, ↓Zkx, ↓Zky, ↓Zkz, reduceIte, if_true, if_false, Bool.false_eq_true, Bool.and_true, Bool.true_and, Bool.and_false, Bool.false_and, Bool.or_true, Bool.true_or, Bool.or_false, Bool.false_or, Int.cast_ofNat_Int, Zla, Zlb, beq_self_eq_true, Int.reduceBEq, Int.reduceLT, Int.reduceLE, Int.reduceEq, Int.reduceNeg, Nat.reduceLT, Zlc, Zld, Zle, Zlf, Zlg, Zlh, Zli, Zlj, Zlk, Zll, Zlm, Zln, Zlo, Zlp, Zlq, Zlr, Zls, Zlt, Zlu, Zlv, Zlw, Zlx, Zly, Zlz, Zma, Zmb, Zmc, Zmd, Zme, Zmf, Zmg, Zmh, Zmi, Zmj, Zmk, Zml, Zmm, Zmn, Zmo, Zmp, Zmq, Zmr, Zms, Zmt, Zmu, Zmv, Zmw, Zmx, Zmy, Zmz, Zna, Znb, Znc, Znd, Zne, Znf, Zng, Znh, Zni, Znj, Znk, Znl, Znm, Znn, Zno, List.lookup_nil, Znp, Znq, Option.map_some, Option.map_none, Option.bind_some, Option.bind_none, List.map_nil, List.map_cons, List.nil_append, List.cons_append, List.append_nil, List.length_cons, List.length_nil, Nat.reduceAdd, Nat.reduceLeDiff, Nat.reduceEqDiff, Nat.reduceBEq, decide_true, decide_false, Bool.not_true, Bool.not_false, Znr, Zns, Znt, Znu, Znv, Znw, Znx, Zny, Znz, Zoa, Zob, Zoc, Zod, Zoe, List.getElem?_cons_zero, List.getElem?_cons_succ, Zof, Zog, Zoh, Zoi, Zoj, Zok, Zol, Zom, Zon, Zoo, Zop, Zoq, Zor, Zos, Zot, Zou, Zov, Zow, Zox, Zoy, setX, Zoz, Zpa, Zpb, Int.ofNat_lt, Int.ofNat_le, Zpc, Zpd, Zpe, Zpf, Zpg, Zph]
end L2.S.W

set_option Elab.async false
set_option linter.all false
set_option maxRecDepth 100000
set_option maxHeartbeats 8000000
namespace L2.S.W
open PySem PySem.Spec PyProof.Rows L2 L2.S
theorem avD_6 {a b c d e f} : avD [.d a, .d b, .d c, .d d, .d e, .d f] = some [a, b, c, d, e, f] := rfl
theorem Lw.take {w : List Nat} {k : Nat} (h : Lw w) : Lw (w.take k) := fun c hc => h c (List.mem_of_mem_take hc)
theorem Lw.app {w v : List Nat} (h : Lw w) (k : Lw v) : Lw (w ++ v) := fun c hc => (List.mem_append.mp hc).elim (h c) (k c)
theorem Lw.rev {w : List Nat} (h : Lw w) : Lw w.reverse := fun c hc => h c (List.mem_reverse.mp hc)
theorem Lw.rep {w : List Nat} {k : Nat} (h : Lw w) : Lw (List.replicate k w).flatten := fun c hc => by
  obtain ⟨l, hl, hc⟩ := List.mem_flatten.mp hc
  rw [List.eq_of_mem_replicate hl] at hc
  exact h c hc
theorem rep_len {w : List Nat} {k : Nat} : (List.replicate k w).flatten.length = k * w.length := by
  induction k with
  | zero => simp
  | succ k ih => rw [List.replicate_succ, List.flatten_cons, List.length_append, ih, Nat.add_mul]; omega
theorem mulR {w : List Nat} {k : Nat} (hk : k ≤ 100) (hw : w.length ≤ 1000) : pMul (.str w) (.int (k : Int)) = some (.d (.str (List.replicate k w).flatten)) := by
  have := mulS (a := w) (n := (k : Int)) (by omega) (by omega) (by
    rw [Int.toNat_natCast]
    exact Nat.le_trans (Nat.mul_le_mul hw hk) (by decide))
  rw [Int.toNat_natCast] at this
  exact this
noncomputable def turnG : Env' → RS := sSeq (sSet 3 (cCall φ_law_abc [] (cAs 1 (cAd (cOp pAdd (cK (.int 1)) (cCall φ_law_take [] (cAs 1 (cAd (cK (.int 3)) (cA0))))) (cAd (cCall φ_law_take [] (cAs 1 (cAd (cK (.int 13)) (cA0)))) (cA0)))))) (
sSeq (sSet 4 (cCall φ_law_take [] (cAs 1 (cAd (cK (.int 4)) (cA0))))) (
sSeq (sIf (cTr (cOp (pEq false) (cV 4) (cK (.int 0)))) (sSet 3 (cSl (cOp pMul (cSl (cV 3) (o0) (oI (cK (.int 5)))) (cK (.int 4))) (o0) (oI (cCall φ_law_take [] (cAs 1 (cAd (cK (.int 15)) (cA0))))))) (sNx)) (
sSeq (sIf (cTr (cOp (pEq false) (cV 4) (cK (.int 1)))) (sSet 3 (cOp pAdd (cSl (cV 3) (o0) (oI (cK (.int 6)))) (cRv2 (cSl (cV 3) (o0) (oI (cK (.int 6))))))) (sNx)) (
sSeq (sIf (cTr (cOp (pEq false) (cV 4) (cK (.int 2)))) (sSet 3 (cOp pAdd (cOp pAdd (cSl (cV 3) (o0) (oI (cK (.int 4)))) (cCall φ_law_abc [] (cAs 1 (cAd (cK (.int 2)) (cAd (cCall φ_law_take [] (cAs 1 (cAd (cK (.int 5)) (cA0)))) (cA0)))))) (cSl (cV 3) (o0) (oI (cK (.int 4)))))) (sNx)) (
sIf (cNotT (cTr (cCall φ_law_asked [] (cAd (cV 3) (cA0))))) (sRet (cK (.bl false))) (sNx))))))
theorem g_law_eq : g_law = sSeq (sSetO 1 (cCall φ_law_state [] (cAd (cV 0) (cA0)))) (
sSeq (sFor (iR1 (cAd (cK (.int 6)) (cA0))) (gN 2) turnG) (
sSeq (sIf (cNotT (cTr (cCall φ_law_asked [] (cAd (cSl (cOp pMul (cCall φ_law_abc [] (cAs 1 (cAd (cK (.int 2)) (cAd (cK (.int 7)) (cA0))))) (cK (.int 9))) (o0) (oI (cK (.int 60)))) (cA0))))) (sRet (cK (.bl false))) (sNx)) (
sSeq (sFor (iD (cLst (cAd (cK .non) (cAd (cK (.int 5)) (cAd (cK (.str [65])) (cAd (cK (.str [97, 45, 98])) (cAd (cTup (cAd (cK (.str [97])) (cA0))) (cAd (cOp pMul (cK (.str [97])) (cK (.int 61))) (cA0))))))))) (gN 5) (sSeq (sFor (iD (cTup (cAd (cK (.fn 1)) (cAd (cK (.fn 0)) (cAd (cK (.fn 2)) (cA0)))))) (gN 6) (sIf (cTr (cOp (pEq true) (cIx (cCall φ_law_told_by [] (cAd (cV 6) (cAd (cTup (cAd (cV 5) (cA0))) (cA0)))) (cK (.int 0))) (cK (.str [109, 97, 108, 102, 111, 114, 109, 101, 100])))) (sRet (cK (.bl false))) (sNx))) (
sIf (cTr (cOp (pEq true) (cIx (cCall φ_law_told_by [] (cAd (cK (.fn 3)) (cAd (cTup (cAd (cV 5) (cAd (cK (.int 1)) (cA0)))) (cA0)))) (cK (.int 0))) (cK (.str [109, 97, 108, 102, 111, 114, 109, 101, 100])))) (sRet (cK (.bl false))) (sNx)))) (
sRet (cBi bAll (cAd (cLc (iD (cLst (cAd (cK (.int 0)) (cAd (cK (.int 4)) (cAd (cNeg (cK (.int 1))) (cAd (cK .non) (cAd (cK (.bl true)) (cAd (cK (.str [49])) (cA0))))))))) [5] (gN 5) (cYes) (cOp (pEq false) (cIx (cCall φ_law_told_by [] (cAd (cK (.fn 3)) (cAd (cTup (cAd (cK (.str [97, 98, 97, 98])) (cAd (cV 5) (cA0)))) (cA0)))) (cK (.int 0))) (cK (.str [109, 97, 108, 102, 111, 114, 109, 101, 100])))) (cA0))))))) := rfl
theorem turn_ok {x0 x2 x3 x4 : SV} {s0 s1 : Int} {Q : RS → Prop} (hs : St2 s0 s1) (h2 : Fr1 x2) (h3 : Fr1 x3) (h4 : Fr1 x4) (hQ : ∀ (t0 t1 : Int) (y3 y4 : SV), St2 t0 t1 → Fr1 y3 → Fr1 y4 → Q (.nx [x0, .own false (stD t0 t1), x2, y3, y4, .un, .un])) : wp turnG [x0, .own false (stD s0 s1), x2, x3, x4, .un, .un] Q := by
  unfold turnG
  obtain ⟨x, a0, a1, p1, x0', x1', h5⟩ := l_take (m := 3) hs (by decide)
  obtain ⟨k, hk⟩ : ∃ k : Nat, 1 + x = k := ⟨(1 + x).toNat, by omega⟩
  obtain ⟨y, b0, b1, p2, y0, y1, h6⟩ := l_take (m := 13) h5 (by decide)
  obtain ⟨n, rfl⟩ : ∃ k : Nat, y = k := ⟨y.toNat, by omega⟩
  obtain ⟨w, c0, c1, p3, hl, hw, h7⟩ := l_abc (k := k) (n := n) h6 (by omega) (by omega) (by omega)
  obtain ⟨z, d0, d1, p4, z0, z1, h8⟩ := l_take (m := 4) h7 (by decide)
  have hl2 : w.length ≤ 16777216 := by omega
  have hz : z = 0 ∨ z = 1 ∨ z = 2 ∨ z = 3 := by omega
  rcases hz with rfl | rfl | rfl | rfl
  · obtain ⟨u, e0, e1, p5, u0, u1, h9⟩ := l_take (m := 15) h8 (by decide)
    obtain ⟨m, rfl⟩ : ∃ k : Nat, u = k := ⟨u.toNat, by omega⟩
    have c5 : cut w none (some 5) = w.take 5 := Zow (k := 5)
    have t5 : (w.take 5).length ≤ 5 := by rw [List.length_take]; omega
    have m4 : pMul (.str (w.take 5)) (.int 4) = some (.d (.str (List.replicate 4 (w.take 5)).flatten)) := mulR (k := 4) (by decide) (by omega)
    have fl : (List.replicate 4 (w.take 5)).flatten.length ≤ 20 := by rw [rep_len]; omega
    have fl2 : (List.replicate 4 (w.take 5)).flatten.length ≤ 16777216 := by omega
    have q := q_asked (w := (List.replicate 4 (w.take 5)).flatten.take m) ⟨(Lw.rep (Lw.take hw)).take, by rw [List.length_take]; omega⟩
    simp -implicitDefEqProofs -dsimp only [↓Zaa, ↓Zab, ↓Zac, ↓Zad, ↓Zae, ↓Zaf, ↓Zag, ↓Zah, ↓Zai, ↓Zaj, ↓Zak, ↓Zal, ↓Zam, ↓Zan, ↓Zao, ↓Zap, ↓Zaq, ↓Zar, ↓Zas, ↓Zat, ↓Zau, ↓Zav, ↓Zaw, ↓Zax, ↓Zay, ↓Zaz, ↓Zba, ↓Zbb, ↓Zbc, ↓Zbd, ↓Zbe, ↓Zbf, ↓Zbg, ↓Zbh, ↓Zbi, ↓Zbj, ↓Zbk, ↓Zbl, ↓Zbm, ↓Zbn, ↓Zbo, ↓Zbp, ↓Zbq, ↓Zbr, ↓Zbs, ↓Zbt, ↓Zbu, ↓Zbv, ↓Zbw, ↓Zbx, ↓Zby, ↓Zbz, ↓Zca, ↓Zcb, ↓Zcc, ↓Zcd, ↓Zce, ↓Zcf, ↓Zcg, ↓Zch, ↓Zci, ↓Zcj, ↓Zck, ↓Zcl, ↓Zcm, ↓Zcn, ↓Zco, ↓Zcp, ↓Zcq, ↓Zcr, ↓Zcs, ↓Zct, ↓Zcu, ↓Zcv, ↓Zcw, ↓Zcx, ↓Zcy, ↓Zcz, ↓Zda, ↓Zdb, ↓Zdc, ↓Zdd, ↓Zde, ↓Zdf, ↓Zdg, ↓Zdh, ↓Zdi, ↓Zdj, ↓Zdk, ↓Zdl, ↓Zdm, ↓Zdn, ↓Zdo, ↓Zdp, ↓Zdq, ↓Zdr, ↓Zds, ↓Zdt, ↓Zdu, ↓Zdv, ↓Zdw, ↓Zdx, ↓Zdy, ↓Zdz, ↓Zea, ↓Zeb, ↓Zec, ↓Zed, ↓Zee, ↓Zef, ↓Zeg, ↓Zeh, ↓Zei, ↓Zej, ↓Zek, ↓Zel, ↓Zem, ↓Zen, ↓Zeo, ↓Zep, ↓Zeq, ↓Zer, ↓Zes, ↓Zet, ↓Zeu, ↓Zev, ↓Zew, ↓Zex, ↓Zey, ↓Zez, ↓Zfa, ↓Zfb, ↓Zfc, ↓Zfd, ↓Zfe, ↓Zff, ↓Zfg, ↓Zfh, ↓Zfi, ↓Zfj, ↓Zfk, ↓Zfl, ↓Zfm, ↓Zfn, ↓Zfo, ↓Zfp, ↓Zfq, ↓Zfr, ↓Zfs, ↓Zft, ↓Zfu, ↓Zfv, ↓Zfw, ↓Zfx, ↓Zfy, ↓Zfz, ↓Zga, ↓Zgb, ↓Zgc, ↓Zgd, ↓Zge, ↓Zgf, ↓Zgg, ↓Zgh, ↓Zgi, ↓Zgj, ↓Zgk, ↓Zgl, ↓Zgm, ↓Zgn, ↓Zgo, ↓Zgp, ↓Zgq, ↓Zgr, ↓Zgs, ↓Zgt, ↓Zgu, ↓Zgv, ↓Zgw, ↓Zgx, ↓Zgy, ↓Zgz, ↓Zha, ↓Zhb, ↓Zhc, ↓Zhd, ↓Zhe, ↓Zhf, ↓Zhg, ↓Zhh, ↓Zhi, ↓Zhj, ↓Zhk, ↓Zhl, ↓Zhm, ↓Zhn, ↓Zho, ↓Zhp, ↓Zhq, ↓Zhr, ↓Zhs, ↓Zht, ↓Zhu, ↓Zhv, ↓Zhw, ↓Zhx, ↓Zhy, ↓Zhz, ↓Zia, ↓Zib, ↓Zic, ↓Zid, ↓Zie, ↓Zif, ↓Zig, ↓Zih, ↓Zii, ↓Zij, ↓Zik, ↓Zil, ↓Zim, ↓Zin, ↓Zio, ↓Ziq, ↓Zir, ↓Zis, ↓Zit, ↓Ziu, ↓Ziv, ↓Ziw, ↓Zix, ↓Ziy, ↓Ziz, ↓Zja, ↓Zjb, ↓Zjc, ↓Zjd, ↓Zje, ↓Zjf, ↓Zjg, ↓Zjh, ↓Zji, ↓Zjj, ↓Zjk, ↓Zjl, ↓Zjm, ↓Zjn, ↓Zjo, ↓Zjp, ↓Zjq, ↓Zjr, ↓Zjs, ↓Zjt, ↓Zju, ↓Zjv, ↓Zjw, ↓Zjx, ↓Zjy, ↓Zjz, ↓Zka, ↓Zkb, ↓Zkc, ↓Zkd, ↓Zke, ↓Zkf, ↓Zkg, ↓Zkh, ↓Zki, ↓Zkj, ↓Zkk, ↓Zkl, ↓Zkm, ↓Zkn, ↓Zko, ↓Zkp, ↓Zkq, ↓Zkr, ↓Zks, ↓Zkt, ↓Zku, ↓Zkv, ↓Zkw, ↓Zkx, ↓Zky, ↓Zkz, reduceIte, if_true, if_false, Bool.false_eq_true, Bool.and_true, Bool.true_and, Bool.and_false, Bool.false_and, Bool.or_true, Bool.true_or, Bool.or_false, Bool.false_or, Int.cast_ofNat_Int, Zla, Zlb, beq_self_eq_true, Int.reduceBEq, Int.reduceLT, Int.reduceLE, Int.reduceEq, Int.reduceNeg, Nat.reduceLT, Zlc, Zld, Zle, Zlf, Zlg, Zlh, Zli, Zlj, Zlk, Zll, Zlm, Zln, Zlo, Zlp, Zlq, Zlr, Zls, Zlt, Zlu, Zlv, Zlw, Zlx, Zly, Zlz, Zma, Zmb, Zmc, Zmd, Zme, Zmf, Zmg, Zmh, Zmi, Zmj, Zmk, Zml, Zmm, Zmn, Zmo, Zmp, Zmq, Zmr, Zms, Zmt, Zmu, Zmv, Zmw, Zmx, Zmy, Zmz, Zna, Znb, Znc, Znd, Zne, Znf, Zng, Znh, Zni, Znj, Znk, Znl, Znm, Znn, Zno, List.lookup_nil, Znp, Znq, Option.map_some, Option.map_none, Option.bind_some, Option.bind_none, List.map_nil, List.map_cons, List.nil_append, List.cons_append, List.append_nil, List.length_cons, List.length_nil, Nat.reduceAdd, Nat.reduceLeDiff, Nat.reduceEqDiff, Nat.reduceBEq, decide_true, decide_false, Bool.not_true, Bool.not_false, Znr, Zns, Znt, Znu, Znv, Znw, Znx, Zny, Znz, Zoa, Zob, Zoc, Zod, Zoe, List.getElem?_cons_zero, List.getElem?_cons_succ, Zof, Zog, Zoh, Zoi, Zoj, Zok, Zol, Zom, Zon, Zoo, Zop, Zoq, Zor, Zos, Zot, Zou, Zov, Zow, Zox, Zoy, setX, Zoz, Zpa, Zpb, Int.ofNat_lt, Int.ofNat_le, Zpc, Zpd, Zpe, Zpf, Zpg, Zph, p1, hk, p2, h3, p3, h4, p4, slD_s hl2, ↓c5, m4, p5, slD_s fl2, Zow, q]
    exact hQ _ _ _ _ h9 .val .val
  · have c6 : cut w none (some 6) = w.take 6 := Zow (k := 6)
    have t6 : (w.take 6).length ≤ 6 := by rw [List.length_take]; omega
    have t6' : (w.take 6).length ≤ 16777216 := by omega
    have ad : pAdd (.str (w.take 6)) (.str (w.take 6).reverse) = some (.d (.str (w.take 6 ++ (w.take 6).reverse))) := addS (by rw [List.length_reverse]; omega)
    have q := q_asked (w := w.take 6 ++ (w.take 6).reverse) ⟨(Lw.take hw).app (Lw.take hw).rev, by rw [List.length_append, List.length_reverse]; omega⟩
    simp -implicitDefEqProofs -dsimp only [↓Zaa, ↓Zab, ↓Zac, ↓Zad, ↓Zae, ↓Zaf, ↓Zag, ↓Zah, ↓Zai, ↓Zaj, ↓Zak, ↓Zal, ↓Zam, ↓Zan, ↓Zao, ↓Zap, ↓Zaq, ↓Zar, ↓Zas, ↓Zat, ↓Zau, ↓Zav, ↓Zaw, ↓Zax, ↓Zay, ↓Zaz, ↓Zba, ↓Zbb, ↓Zbc, ↓Zbd, ↓Zbe, ↓Zbf, ↓Zbg, ↓Zbh, ↓Zbi, ↓Zbj, ↓Zbk, ↓Zbl, ↓Zbm, ↓Zbn, ↓Zbo, ↓Zbp, ↓Zbq, ↓Zbr, ↓Zbs, ↓Zbt, ↓Zbu, ↓Zbv, ↓Zbw, ↓Zbx, ↓Zby, ↓Zbz, ↓Zca, ↓Zcb, ↓Zcc, ↓Zcd, ↓Zce, ↓Zcf, ↓Zcg, ↓Zch, ↓Zci, ↓Zcj, ↓Zck, ↓Zcl, ↓Zcm, ↓Zcn, ↓Zco, ↓Zcp, ↓Zcq, ↓Zcr, ↓Zcs, ↓Zct, ↓Zcu, ↓Zcv, ↓Zcw, ↓Zcx, ↓Zcy, ↓Zcz, ↓Zda, ↓Zdb, ↓Zdc, ↓Zdd, ↓Zde, ↓Zdf, ↓Zdg, ↓Zdh, ↓Zdi, ↓Zdj, ↓Zdk, ↓Zdl, ↓Zdm, ↓Zdn, ↓Zdo, ↓Zdp, ↓Zdq, ↓Zdr, ↓Zds, ↓Zdt, ↓Zdu, ↓Zdv, ↓Zdw, ↓Zdx, ↓Zdy, ↓Zdz, ↓Zea, ↓Zeb, ↓Zec, ↓Zed, ↓Zee, ↓Zef, ↓Zeg, ↓Zeh, ↓Zei, ↓Zej, ↓Zek, ↓Zel, ↓Zem, ↓Zen, ↓Zeo, ↓Zep, ↓Zeq, ↓Zer, ↓Zes, ↓Zet, ↓Zeu, ↓Zev, ↓Zew, ↓Zex, ↓Zey, ↓Zez, ↓Zfa, ↓Zfb, ↓Zfc, ↓Zfd, ↓Zfe, ↓Zff, ↓Zfg, ↓Zfh, ↓Zfi, ↓Zfj, ↓Zfk, ↓Zfl, ↓Zfm, ↓Zfn, ↓Zfo, ↓Zfp, ↓Zfq, ↓Zfr, ↓Zfs, ↓Zft, ↓Zfu, ↓Zfv, ↓Zfw, ↓Zfx, ↓Zfy, ↓Zfz, ↓Zga, ↓Zgb, ↓Zgc, ↓Zgd, ↓Zge, ↓Zgf, ↓Zgg, ↓Zgh, ↓Zgi, ↓Zgj, ↓Zgk, ↓Zgl, ↓Zgm, ↓Zgn, ↓Zgo, ↓Zgp, ↓Zgq, ↓Zgr, ↓Zgs, ↓Zgt, ↓Zgu, ↓Zgv, ↓Zgw, ↓Zgx, ↓Zgy, ↓Zgz, ↓Zha, ↓Zhb, ↓Zhc, ↓Zhd, ↓Zhe, ↓Zhf, ↓Zhg, ↓Zhh, ↓Zhi, ↓Zhj, ↓Zhk, ↓Zhl, ↓Zhm, ↓Zhn, ↓Zho, ↓Zhp, ↓Zhq, ↓Zhr, ↓Zhs, ↓Zht, ↓Zhu, ↓Zhv, ↓Zhw, ↓Zhx, ↓Zhy, ↓Zhz, ↓Zia, ↓Zib, ↓Zic, ↓Zid, ↓Zie, ↓Zif, ↓Zig, ↓Zih, ↓Zii, ↓Zij, ↓Zik, ↓Zil, ↓Zim, ↓Zin, ↓Zio, ↓Ziq, ↓Zir, ↓Zis, ↓Zit, ↓Ziu, ↓Ziv, ↓Ziw, ↓Zix, ↓Ziy, ↓Ziz, ↓Zja, ↓Zjb, ↓Zjc, ↓Zjd, ↓Zje, ↓Zjf, ↓Zjg, ↓Zjh, ↓Zji, ↓Zjj, ↓Zjk, ↓Zjl, ↓Zjm, ↓Zjn, ↓Zjo, ↓Zjp, ↓Zjq, ↓Zjr, ↓Zjs, ↓Zjt, ↓Zju, ↓Zjv, ↓Zjw, ↓Zjx, ↓Zjy, ↓Zjz, ↓Zka, ↓Zkb, ↓Zkc, ↓Zkd, ↓Zke, ↓Zkf, ↓Zkg, ↓Zkh, ↓Zki, ↓Zkj, ↓Zkk, ↓Zkl, ↓Zkm, ↓Zkn, ↓Zko, ↓Zkp, ↓Zkq, ↓Zkr, ↓Zks, ↓Zkt, ↓Zku, ↓Zkv, ↓Zkw, ↓Zkx, ↓Zky, ↓Zkz, reduceIte, if_true, if_false, Bool.false_eq_true, Bool.and_true, Bool.true_and, Bool.and_false, Bool.false_and, Bool.or_true, Bool.true_or, Bool.or_false, Bool.false_or, Int.cast_ofNat_Int, Zla, Zlb, beq_self_eq_true, Int.reduceBEq, Int.reduceLT, Int.reduceLE, Int.reduceEq, Int.reduceNeg, Nat.reduceLT, Zlc, Zld, Zle, Zlf, Zlg, Zlh, Zli, Zlj, Zlk, Zll, Zlm, Zln, Zlo, Zlp, Zlq, Zlr, Zls, Zlt, Zlu, Zlv, Zlw, Zlx, Zly, Zlz, Zma, Zmb, Zmc, Zmd, Zme, Zmf, Zmg, Zmh, Zmi, Zmj, Zmk, Zml, Zmm, Zmn, Zmo, Zmp, Zmq, Zmr, Zms, Zmt, Zmu, Zmv, Zmw, Zmx, Zmy, Zmz, Zna, Znb, Znc, Znd, Zne, Znf, Zng, Znh, Zni, Znj, Znk, Znl, Znm, Znn, Zno, List.lookup_nil, Znp, Znq, Option.map_some, Option.map_none, Option.bind_some, Option.bind_none, List.map_nil, List.map_cons, List.nil_append, List.cons_append, List.append_nil, List.length_cons, List.length_nil, Nat.reduceAdd, Nat.reduceLeDiff, Nat.reduceEqDiff, Nat.reduceBEq, decide_true, decide_false, Bool.not_true, Bool.not_false, Znr, Zns, Znt, Znu, Znv, Znw, Znx, Zny, Znz, Zoa, Zob, Zoc, Zod, Zoe, List.getElem?_cons_zero, List.getElem?_cons_succ, Zof, Zog, Zoh, Zoi, Zoj, Zok, Zol, Zom, Zon, Zoo, Zop, Zoq, Zor, Zos, Zot, Zou, Zov, Zow, Zox, Zoy, setX, Zoz, Zpa, Zpb, Int.ofNat_lt, Int.ofNat_le, Zpc, Zpd, Zpe, Zpf, Zpg, Zph, p1, hk, p2, h3, p3, h4, p4, slD_s hl2, ↓c6, rv3K_s t6', ad, q]
    exact hQ _ _ _ _ h8 .val .val
  · obtain ⟨u, e0, e1, p5, u0, u1, h9⟩ := l_take (m := 5) h8 (by decide)
    obtain ⟨m, rfl⟩ : ∃ k : Nat, u = k := ⟨u.toNat, by omega⟩
    obtain ⟨v, f0, f1, p6, hv, hv2, h10⟩ := l_abc (k := 2) (n := m) h9 (by decide) (by decide) (by omega)
    have p6 : φ_law_abc [.own true (stD e0 e1), .val (.int 2), .val (.int m)] = .ok (.d (.str v)) [(0, stD f0 f1)] := p6
    have c4 : cut w none (some 4) = w.take 4 := Zow (k := 4)
    have t4 : (w.take 4).length ≤ 4 := by rw [List.length_take]; omega
    have a1 : pAdd (.str (w.take 4)) (.str v) = some (.d (.str (w.take 4 ++ v))) := addS (by omega)
    have a2 : pAdd (.str (w.take 4 ++ v)) (.str (w.take 4)) = some (.d (.str (w.take 4 ++ v ++ w.take 4))) := addS (by rw [List.length_append]; omega)
    have q := q_asked (w := w.take 4 ++ v ++ w.take 4) ⟨((Lw.take hw).app hv2).app (Lw.take hw), by rw [List.length_append, List.length_append]; omega⟩
    simp -implicitDefEqProofs -dsimp only [↓Zaa, ↓Zab, ↓Zac, ↓Zad, ↓Zae, ↓Zaf, ↓Zag, ↓Zah, ↓Zai, ↓Zaj, ↓Zak, ↓Zal, ↓Zam, ↓Zan, ↓Zao, ↓Zap, ↓Zaq, ↓Zar, ↓Zas, ↓Zat, ↓Zau, ↓Zav, ↓Zaw, ↓Zax, ↓Zay, ↓Zaz, ↓Zba, ↓Zbb, ↓Zbc, ↓Zbd, ↓Zbe, ↓Zbf, ↓Zbg, ↓Zbh, ↓Zbi, ↓Zbj, ↓Zbk, ↓Zbl, ↓Zbm, ↓Zbn, ↓Zbo, ↓Zbp, ↓Zbq, ↓Zbr, ↓Zbs, ↓Zbt, ↓Zbu, ↓Zbv, ↓Zbw, ↓Zbx, ↓Zby, ↓Zbz, ↓Zca, ↓Zcb, ↓Zcc, ↓Zcd, ↓Zce, ↓Zcf, ↓Zcg, ↓Zch, ↓Zci, ↓Zcj, ↓Zck, ↓Zcl, ↓Zcm, ↓Zcn, ↓Zco, ↓Zcp, ↓Zcq, ↓Zcr, ↓Zcs, ↓Zct, ↓Zcu, ↓Zcv, ↓Zcw, ↓Zcx, ↓Zcy, ↓Zcz, ↓Zda, ↓Zdb, ↓Zdc, ↓Zdd, ↓Zde, ↓Zdf, ↓Zdg, ↓Zdh, ↓Zdi, ↓Zdj, ↓Zdk, ↓Zdl, ↓Zdm, ↓Zdn, ↓Zdo, ↓Zdp, ↓Zdq, ↓Zdr, ↓Zds, ↓Zdt, ↓Zdu, ↓Zdv, ↓Zdw, ↓Zdx, ↓Zdy, ↓Zdz, ↓Zea, ↓Zeb, ↓Zec, ↓Zed, ↓Zee, ↓Zef, ↓Zeg, ↓Zeh, ↓Zei, ↓Zej, ↓Zek, ↓Zel, ↓Zem, ↓Zen, ↓Zeo, ↓Zep, ↓Zeq, ↓Zer, ↓Zes, ↓Zet, ↓Zeu, ↓Zev, ↓Zew, ↓Zex, ↓Zey, ↓Zez, ↓Zfa, ↓Zfb, ↓Zfc, ↓Zfd, ↓Zfe, ↓Zff, ↓Zfg, ↓Zfh, ↓Zfi, ↓Zfj, ↓Zfk, ↓Zfl, ↓Zfm, ↓Zfn, ↓Zfo, ↓Zfp, ↓Zfq, ↓Zfr, ↓Zfs, ↓Zft, ↓Zfu, ↓Zfv, ↓Zfw, ↓Zfx, ↓Zfy, ↓Zfz, ↓Zga, ↓Zgb, ↓Zgc, ↓Zgd, ↓Zge, ↓Zgf, ↓Zgg, ↓Zgh, ↓Zgi, ↓Zgj, ↓Zgk, ↓Zgl, ↓Zgm, ↓Zgn, ↓Zgo, ↓Zgp, ↓Zgq, ↓Zgr, ↓Zgs, ↓Zgt, ↓Zgu, ↓Zgv, ↓Zgw, ↓Zgx, ↓Zgy, ↓Zgz, ↓Zha, ↓Zhb, ↓Zhc, ↓Zhd, ↓Zhe, ↓Zhf, ↓Zhg, ↓Zhh, ↓Zhi, ↓Zhj, ↓Zhk, ↓Zhl, ↓Zhm, ↓Zhn, ↓Zho, ↓Zhp, ↓Zhq, ↓Zhr, ↓Zhs, ↓Zht, ↓Zhu, ↓Zhv, ↓Zhw, ↓Zhx, ↓Zhy, ↓Zhz, ↓Zia, ↓Zib, ↓Zic, ↓Zid, ↓Zie, ↓Zif, ↓Zig, ↓Zih, ↓Zii, ↓Zij, ↓Zik, ↓Zil, ↓Zim, ↓Zin, ↓Zio, ↓Ziq, ↓Zir, ↓Zis, ↓Zit, ↓Ziu, ↓Ziv, ↓Ziw, ↓Zix, ↓Ziy, ↓Ziz, ↓Zja, ↓Zjb, ↓Zjc, ↓Zjd, ↓Zje, ↓Zjf, ↓Zjg, ↓Zjh, ↓Zji, ↓Zjj, ↓Zjk, ↓Zjl, ↓Zjm, ↓Zjn, ↓Zjo, ↓Zjp, ↓Zjq, ↓Zjr, ↓Zjs, ↓Zjt, ↓Zju, ↓Zjv, ↓Zjw, ↓Zjx, ↓Zjy, ↓Zjz, ↓Zka, ↓Zkb, ↓Zkc, ↓Zkd, ↓Zke, ↓Zkf, ↓Zkg, ↓Zkh, ↓Zki, ↓Zkj, ↓Zkk, ↓Zkl, ↓Zkm, ↓Zkn, ↓Zko, ↓Zkp, ↓Zkq, ↓Zkr, ↓Zks, ↓Zkt, ↓Zku, ↓Zkv, ↓Zkw, ↓Zkx, ↓Zky, ↓Zkz, reduceIte, if_true, if_false, Bool.false_eq_true, Bool.and_true, Bool.true_and, Bool.and_false, Bool.false_and, Bool.or_true, Bool.true_or, Bool.or_false, Bool.false_or, Int.cast_ofNat_Int, Zla, Zlb, beq_self_eq_true, Int.reduceBEq, Int.reduceLT, Int.reduceLE, Int.reduceEq, Int.reduceNeg, Nat.reduceLT, Zlc, Zld, Zle, Zlf, Zlg, Zlh, Zli, Zlj, Zlk, Zll, Zlm, Zln, Zlo, Zlp, Zlq, Zlr, Zls, Zlt, Zlu, Zlv, Zlw, Zlx, Zly, Zlz, Zma, Zmb, Zmc, Zmd, Zme, Zmf, Zmg, Zmh, Zmi, Zmj, Zmk, Zml, Zmm, Zmn, Zmo, Zmp, Zmq, Zmr, Zms, Zmt, Zmu, Zmv, Zmw, Zmx, Zmy, Zmz, Zna, Znb, Znc, Znd, Zne, Znf, Zng, Znh, Zni, Znj, Znk, Znl, Znm, Znn, Zno, List.lookup_nil, Znp, Znq, Option.map_some, Option.map_none, Option.bind_some, Option.bind_none, List.map_nil, List.map_cons, List.nil_append, List.cons_append, List.append_nil, List.length_cons, List.length_nil, Nat.reduceAdd, Nat.reduceLeDiff, Nat.reduceEqDiff, Nat.reduceBEq, decide_true, decide_false, Bool.not_true, Bool.not_false, Znr, Zns, Znt, Znu, Znv, Znw, Znx, Zny, Znz, Zoa, Zob, Zoc, Zod, Zoe, List.getElem?_cons_zero, List.getElem?_cons_succ, Zof, Zog, Zoh, Zoi, Zoj, Zok, Zol, Zom, Zon, Zoo, Zop, Zoq, Zor, Zos, Zot, Zou, Zov, Zow, Zox, Zoy, setX, Zoz, Zpa, Zpb, Int.ofNat_lt, Int.ofNat_le, Zpc, Zpd, Zpe, Zpf, Zpg, Zph, p1, hk, p2, h3, p3, h4, p4, slD_s hl2, ↓c4, p5, p6, a1, a2, q]
    exact hQ _ _ _ _ h10 .val .val
  · have q := q_asked (w := w) ⟨hw, by omega⟩
    simp -implicitDefEqProofs -dsimp only [↓Zaa, ↓Zab, ↓Zac, ↓Zad, ↓Zae, ↓Zaf, ↓Zag, ↓Zah, ↓Zai, ↓Zaj, ↓Zak, ↓Zal, ↓Zam, ↓Zan, ↓Zao, ↓Zap, ↓Zaq, ↓Zar, ↓Zas, ↓Zat, ↓Zau, ↓Zav, ↓Zaw, ↓Zax, ↓Zay, ↓Zaz, ↓Zba, ↓Zbb, ↓Zbc, ↓Zbd, ↓Zbe, ↓Zbf, ↓Zbg, ↓Zbh, ↓Zbi, ↓Zbj, ↓Zbk, ↓Zbl, ↓Zbm, ↓Zbn, ↓Zbo, ↓Zbp, ↓Zbq, ↓Zbr, ↓Zbs, ↓Zbt, ↓Zbu, ↓Zbv, ↓Zbw, ↓Zbx, ↓Zby, ↓Zbz, ↓Zca, ↓Zcb, ↓Zcc, ↓Zcd, ↓Zce, ↓Zcf, ↓Zcg, ↓Zch, ↓Zci, ↓Zcj, ↓Zck, ↓Zcl, ↓Zcm, ↓Zcn, ↓Zco, ↓Zcp, ↓Zcq, ↓Zcr, ↓Zcs, ↓Zct, ↓Zcu, ↓Zcv, ↓Zcw, ↓Zcx, ↓Zcy, ↓Zcz, ↓Zda, ↓Zdb, ↓Zdc, ↓Zdd, ↓Zde, ↓Zdf, ↓Zdg, ↓Zdh, ↓Zdi, ↓Zdj, ↓Zdk, ↓Zdl, ↓Zdm, ↓Zdn, ↓Zdo, ↓Zdp, ↓Zdq, ↓Zdr, ↓Zds, ↓Zdt, ↓Zdu, ↓Zdv, ↓Zdw, ↓Zdx, ↓Zdy, ↓Zdz, ↓Zea, ↓Zeb, ↓Zec, ↓Zed, ↓Zee, ↓Zef, ↓Zeg, ↓Zeh, ↓Zei, ↓Zej, ↓Zek, ↓Zel, ↓Zem, ↓Zen, ↓Zeo, ↓Zep, ↓Zeq, ↓Zer, ↓Zes, ↓Zet, ↓Zeu, ↓Zev, ↓Zew, ↓Zex, ↓Zey, ↓Zez, ↓Zfa, ↓Zfb, ↓Zfc, ↓Zfd, ↓Zfe, ↓Zff, ↓Zfg, ↓Zfh, ↓Zfi, ↓Zfj, ↓Zfk, ↓Zfl, ↓Zfm, ↓Zfn, ↓Zfo, ↓Zfp, ↓Zfq, ↓Zfr, ↓Zfs, ↓Zft, ↓Zfu, ↓Zfv, ↓Zfw, ↓Zfx, ↓Zfy, ↓Zfz, ↓Zga, ↓Zgb, ↓Zgc, ↓Zgd, ↓Zge, ↓Zgf, ↓Zgg, ↓Zgh, ↓Zgi, ↓Zgj, ↓Zgk, ↓Zgl, ↓Zgm, ↓Zgn, ↓Zgo, ↓Zgp, ↓Zgq, ↓Zgr, ↓Zgs, ↓Zgt, ↓Zgu, ↓Zgv, ↓Zgw, ↓Zgx, ↓Zgy, ↓Zgz, ↓Zha, ↓Zhb, ↓Zhc, ↓Zhd, ↓Zhe, ↓Zhf, ↓Zhg, ↓Zhh, ↓Zhi, ↓Zhj, ↓Zhk, ↓Zhl, ↓Zhm, ↓Zhn, ↓Zho, ↓Zhp, ↓Zhq, ↓Zhr, ↓Zhs, ↓Zht, ↓Zhu, ↓Zhv, ↓Zhw, ↓Zhx, ↓Zhy, ↓Zhz, ↓Zia, ↓Zib, ↓Zic, ↓Zid, ↓Zie, ↓Zif, ↓Zig, ↓Zih, ↓Zii, ↓Zij, ↓Zik, ↓Zil, ↓Zim, ↓Zin, ↓Zio, ↓Ziq, ↓Zir, ↓Zis, ↓Zit, ↓Ziu, ↓Ziv, ↓Ziw, ↓Zix, ↓Ziy, ↓Ziz, ↓Zja, ↓Zjb, ↓Zjc, ↓Zjd, ↓Zje, ↓Zjf, ↓Zjg, ↓Zjh, ↓Zji, ↓Zjj, ↓Zjk, ↓Zjl, ↓Zjm, ↓Zjn, ↓Zjo, ↓Zjp, ↓Zjq, ↓Zjr, ↓Zjs, ↓Zjt, ↓Zju, ↓Zjv, ↓Zjw, ↓Zjx, ↓Zjy, ↓Zjz, ↓Zka, ↓Zkb, ↓Zkc, ↓Zkd, ↓Zke, ↓Zkf, ↓Zkg, ↓Zkh, ↓Zki, ↓Zkj, ↓Zkk, ↓Zkl, ↓Zkm, ↓Zkn, ↓Zko, ↓Zkp, ↓Zkq, ↓Zkr, ↓Zks, ↓Zkt, ↓Zku, ↓Zkv, ↓Zkw, ↓Zkx, ↓Zky, ↓Zkz, reduceIte, if_true, if_false, Bool.false_eq_true, Bool.and_true, Bool.true_and, Bool.and_false, Bool.false_and, Bool.or_true, Bool.true_or, Bool.or_false, Bool.false_or, Int.cast_ofNat_Int, Zla, Zlb, beq_self_eq_true, Int.reduceBEq, Int.reduceLT, Int.reduceLE, Int.reduceEq, Int.reduceNeg, Nat.reduceLT, Zlc, Zld, Zle, Zlf, Zlg, Zlh, Zli, Zlj, Zlk, Zll, Zlm, Zln, Zlo, Zlp, Zlq, Zlr, Zls, Zlt, Zlu, Zlv, Zlw, Zlx, Zly, Zlz, Zma, Zmb, Zmc, Zmd, Zme, Zmf, Zmg, Zmh, Zmi, Zmj, Zmk, Zml, Zmm, Zmn, Zmo, Zmp, Zmq, Zmr, Zms, Zmt, Zmu, Zmv, Zmw, Zmx, Zmy, Zmz, Zna, Znb, Znc, Znd, Zne, Znf, Zng, Znh, Zni, Znj, Znk, Znl, Znm, Znn, Zno, List.lookup_nil, Znp, Znq, Option.map_some, Option.map_none, Option.bind_some, Option.bind_none, List.map_nil, List.map_cons, List.nil_append, List.cons_append, List.append_nil, List.length_cons, List.length_nil, Nat.reduceAdd, Nat.reduceLeDiff, Nat.reduceEqDiff, Nat.reduceBEq, decide_true, decide_false, Bool.not_true, Bool.not_false, Znr, Zns, Znt, Znu, Znv, Znw, Znx, Zny, Znz, Zoa, Zob, Zoc, Zod, Zoe, List.getElem?_cons_zero, List.getElem?_cons_succ, Zof, Zog, Zoh, Zoi, Zoj, Zok, Zol, Zom, Zon, Zoo, Zop, Zoq, Zor, Zos, Zot, Zou, Zov, Zow, Zox, Zoy, setX, Zoz, Zpa, Zpb, Int.ofNat_lt, Int.ofNat_le, Zpc, Zpd, Zpe, Zpf, Zpg, Zph, p1, hk, p2, h3, p3, h4, p4, q]
    exact hQ _ _ _ _ h8 .val .val
end L2.S.W

set_option Elab.async false
set_option linter.all false
set_option maxRecDepth 100000
set_option maxHeartbeats 8000000
namespace L2.S.W
open PySem PySem.Spec PyProof.Rows L2 L2.S
theorem the_law (ns : List Int) (hl : ns.length ≤ 63) (hb : ∀ z ∈ ns, PySem.Builtin.Int.intBits z ≤ 1048576) : ∃ outs, φ_law [.val (.ro (ns.map D.int))] = .ok (.d (.bl true)) outs := by
  obtain ⟨s0, s1, hst, hs⟩ := l_state ns hl hb
  have s6 : smI (6 : Int) = true := smI_ok (n := 6) (by decide)
  have b1 := c_odd (d := .non) rfl
  have b2 := c_odd (d := .int 5) rfl
  have b3 := c_bad (w := [65]) (by decide) (by decide)
  have b4 := c_bad (w := [97, 45, 98]) (by decide) (by decide)
  have b5 := c_odd (d := .tup [.str [97]]) rfl
  have la : Lw (List.replicate 61 [97]).flatten := Lw.rep (w := [97]) (k := 61) fun c hc => by rw [List.mem_singleton.mp hc]; decide
  have ll : (List.replicate 61 [97]).flatten.length = 61 := by rw [rep_len]; rfl
  have m61 : pMul (.str [97]) (.int 61) = some (.d (.str (List.replicate 61 [97]).flatten)) := mulR (w := [97]) (k := 61) (by decide) (by decide)
  have b6 := c_long (w := (List.replicate 61 [97]).flatten) (by omega) (by omega) la
  generalize (List.replicate 61 [97]).flatten = w61 at m61 b6
  have wa : Wd [97, 98, 97, 98] := ⟨by
    intro c hc
    simp only [List.mem_cons, List.not_mem_nil, or_false] at hc
    rcases hc with rfl | rfl | rfl | rfl <;> decide, by decide⟩
  refine ⟨[], ?_⟩
  apply run_law
  rw [g_law_eq]
  simp -implicitDefEqProofs -dsimp only [↓Zaa, ↓Zab, ↓Zac, ↓Zad, ↓Zae, ↓Zaf, ↓Zag, ↓Zah, ↓Zai, ↓Zaj, ↓Zak, ↓Zal, ↓Zam, ↓Zan, ↓Zao, ↓Zap, ↓Zaq, ↓Zar, ↓Zas, ↓Zat, ↓Zau, ↓Zav, ↓Zaw, ↓Zax, ↓Zay, ↓Zaz, ↓Zba, ↓Zbb, ↓Zbc, ↓Zbd, ↓Zbe, ↓Zbf, ↓Zbg, ↓Zbh, ↓Zbi, ↓Zbj, ↓Zbk, ↓Zbl, ↓Zbm, ↓Zbn, ↓Zbo, ↓Zbp, ↓Zbq, ↓Zbr, ↓Zbs, ↓Zbt, ↓Zbu, ↓Zbv, ↓Zbw, ↓Zbx, ↓Zby, ↓Zbz, ↓Zca, ↓Zcb, ↓Zcc, ↓Zcd, ↓Zce, ↓Zcf, ↓Zcg, ↓Zch, ↓Zci, ↓Zcj, ↓Zck, ↓Zcl, ↓Zcm, ↓Zcn, ↓Zco, ↓Zcp, ↓Zcq, ↓Zcr, ↓Zcs, ↓Zct, ↓Zcu, ↓Zcv, ↓Zcw, ↓Zcx, ↓Zcy, ↓Zcz, ↓Zda, ↓Zdb, ↓Zdc, ↓Zdd, ↓Zde, ↓Zdf, ↓Zdg, ↓Zdh, ↓Zdi, ↓Zdj, ↓Zdk, ↓Zdl, ↓Zdm, ↓Zdn, ↓Zdo, ↓Zdp, ↓Zdq, ↓Zdr, ↓Zds, ↓Zdt, ↓Zdu, ↓Zdv, ↓Zdw, ↓Zdx, ↓Zdy, ↓Zdz, ↓Zea, ↓Zeb, ↓Zec, ↓Zed, ↓Zee, ↓Zef, ↓Zeg, ↓Zeh, ↓Zei, ↓Zej, ↓Zek, ↓Zel, ↓Zem, ↓Zen, ↓Zeo, ↓Zep, ↓Zeq, ↓Zer, ↓Zes, ↓Zet, ↓Zeu, ↓Zev, ↓Zew, ↓Zex, ↓Zey, ↓Zez, ↓Zfa, ↓Zfb, ↓Zfc, ↓Zfd, ↓Zfe, ↓Zff, ↓Zfg, ↓Zfh, ↓Zfi, ↓Zfj, ↓Zfk, ↓Zfl, ↓Zfm, ↓Zfn, ↓Zfo, ↓Zfp, ↓Zfq, ↓Zfr, ↓Zfs, ↓Zft, ↓Zfu, ↓Zfv, ↓Zfw, ↓Zfx, ↓Zfy, ↓Zfz, ↓Zga, ↓Zgb, ↓Zgc, ↓Zgd, ↓Zge, ↓Zgf, ↓Zgg, ↓Zgh, ↓Zgi, ↓Zgj, ↓Zgk, ↓Zgl, ↓Zgm, ↓Zgn, ↓Zgo, ↓Zgp, ↓Zgq, ↓Zgr, ↓Zgs, ↓Zgt, ↓Zgu, ↓Zgv, ↓Zgw, ↓Zgx, ↓Zgy, ↓Zgz, ↓Zha, ↓Zhb, ↓Zhc, ↓Zhd, ↓Zhe, ↓Zhf, ↓Zhg, ↓Zhh, ↓Zhi, ↓Zhj, ↓Zhk, ↓Zhl, ↓Zhm, ↓Zhn, ↓Zho, ↓Zhp, ↓Zhq, ↓Zhr, ↓Zhs, ↓Zht, ↓Zhu, ↓Zhv, ↓Zhw, ↓Zhx, ↓Zhy, ↓Zhz, ↓Zia, ↓Zib, ↓Zic, ↓Zid, ↓Zie, ↓Zif, ↓Zig, ↓Zih, ↓Zii, ↓Zij, ↓Zik, ↓Zil, ↓Zim, ↓Zin, ↓Zio, ↓Ziq, ↓Zir, ↓Zis, ↓Zit, ↓Ziu, ↓Ziv, ↓Ziw, ↓Zix, ↓Ziy, ↓Ziz, ↓Zja, ↓Zjb, ↓Zjc, ↓Zjd, ↓Zje, ↓Zjf, ↓Zjg, ↓Zjh, ↓Zji, ↓Zjj, ↓Zjk, ↓Zjl, ↓Zjm, ↓Zjn, ↓Zjo, ↓Zjp, ↓Zjq, ↓Zjr, ↓Zjs, ↓Zjt, ↓Zju, ↓Zjv, ↓Zjw, ↓Zjx, ↓Zjy, ↓Zjz, ↓Zka, ↓Zkb, ↓Zkc, ↓Zkd, ↓Zke, ↓Zkf, ↓Zkg, ↓Zkh, ↓Zki, ↓Zkj, ↓Zkk, ↓Zkl, ↓Zkm, ↓Zkn, ↓Zko, ↓Zkp, ↓Zkq, ↓Zkr, ↓Zks, ↓Zkt, ↓Zku, ↓Zkv, ↓Zkw, ↓Zkx, ↓Zky, ↓Zkz, reduceIte, if_true, if_false, Bool.false_eq_true, Bool.and_true, Bool.true_and, Bool.and_false, Bool.false_and, Bool.or_true, Bool.true_or, Bool.or_false, Bool.false_or, Int.cast_ofNat_Int, Zla, Zlb, beq_self_eq_true, Int.reduceBEq, Int.reduceLT, Int.reduceLE, Int.reduceEq, Int.reduceNeg, Nat.reduceLT, Zlc, Zld, Zle, Zlf, Zlg, Zlh, Zli, Zlj, Zlk, Zll, Zlm, Zln, Zlo, Zlp, Zlq, Zlr, Zls, Zlt, Zlu, Zlv, Zlw, Zlx, Zly, Zlz, Zma, Zmb, Zmc, Zmd, Zme, Zmf, Zmg, Zmh, Zmi, Zmj, Zmk, Zml, Zmm, Zmn, Zmo, Zmp, Zmq, Zmr, Zms, Zmt, Zmu, Zmv, Zmw, Zmx, Zmy, Zmz, Zna, Znb, Znc, Znd, Zne, Znf, Zng, Znh, Zni, Znj, Znk, Znl, Znm, Znn, Zno, List.lookup_nil, Znp, Znq, Option.map_some, Option.map_none, Option.bind_some, Option.bind_none, List.map_nil, List.map_cons, List.nil_append, List.cons_append, List.append_nil, List.length_cons, List.length_nil, Nat.reduceAdd, Nat.reduceLeDiff, Nat.reduceEqDiff, Nat.reduceBEq, decide_true, decide_false, Bool.not_true, Bool.not_false, Znr, Zns, Znt, Znu, Znv, Znw, Znx, Zny, Znz, Zoa, Zob, Zoc, Zod, Zoe, List.getElem?_cons_zero, List.getElem?_cons_succ, Zof, Zog, Zoh, Zoi, Zoj, Zok, Zol, Zom, Zon, Zoo, Zop, Zoq, Zor, Zos, Zot, Zou, Zov, Zow, Zox, Zoy, setX, Zoz, Zpa, Zpb, Int.ofNat_lt, Int.ofNat_le, Zpc, Zpd, Zpe, Zpf, Zpg, Zph, hst, s6]
  refine for_r0 (n := 6) (fun i e => ∃ (t0 t1 : Int) (x2 x3 x4 : SV), e = [.val (.ro (ns.map D.int)), .own false (stD t0 t1), x2, x3, x4, .un, .un] ∧ Fr1 x2 ∧ Fr1 x3 ∧ Fr1 x4 ∧ St2 t0 t1) ?_ ?_ ?_
  · exact ⟨s0, s1, .un, .un, .un, rfl, .un, .un, .un, hs⟩
  · rintro i e hi ⟨t0, t1, x2, x3, x4, rfl, h2, h3, h4, hst⟩
    simp -implicitDefEqProofs -dsimp only [↓Zaa, ↓Zab, ↓Zac, ↓Zad, ↓Zae, ↓Zaf, ↓Zag, ↓Zah, ↓Zai, ↓Zaj, ↓Zak, ↓Zal, ↓Zam, ↓Zan, ↓Zao, ↓Zap, ↓Zaq, ↓Zar, ↓Zas, ↓Zat, ↓Zau, ↓Zav, ↓Zaw, ↓Zax, ↓Zay, ↓Zaz, ↓Zba, ↓Zbb, ↓Zbc, ↓Zbd, ↓Zbe, ↓Zbf, ↓Zbg, ↓Zbh, ↓Zbi, ↓Zbj, ↓Zbk, ↓Zbl, ↓Zbm, ↓Zbn, ↓Zbo, ↓Zbp, ↓Zbq, ↓Zbr, ↓Zbs, ↓Zbt, ↓Zbu, ↓Zbv, ↓Zbw, ↓Zbx, ↓Zby, ↓Zbz, ↓Zca, ↓Zcb, ↓Zcc, ↓Zcd, ↓Zce, ↓Zcf, ↓Zcg, ↓Zch, ↓Zci, ↓Zcj, ↓Zck, ↓Zcl, ↓Zcm, ↓Zcn, ↓Zco, ↓Zcp, ↓Zcq, ↓Zcr, ↓Zcs, ↓Zct, ↓Zcu, ↓Zcv, ↓Zcw, ↓Zcx, ↓Zcy, ↓Zcz, ↓Zda, ↓Zdb, ↓Zdc, ↓Zdd, ↓Zde, ↓Zdf, ↓Zdg, ↓Zdh, ↓Zdi, ↓Zdj, ↓Zdk, ↓Zdl, ↓Zdm, ↓Zdn, ↓Zdo, ↓Zdp, ↓Zdq, ↓Zdr, ↓Zds, ↓Zdt, ↓Zdu, ↓Zdv, ↓Zdw, ↓Zdx, ↓Zdy, ↓Zdz, ↓Zea, ↓Zeb, ↓Zec, ↓Zed, ↓Zee, ↓Zef, ↓Zeg, ↓Zeh, ↓Zei, ↓Zej, ↓Zek, ↓Zel, ↓Zem, ↓Zen, ↓Zeo, ↓Zep, ↓Zeq, ↓Zer, ↓Zes, ↓Zet, ↓Zeu, ↓Zev, ↓Zew, ↓Zex, ↓Zey, ↓Zez, ↓Zfa, ↓Zfb, ↓Zfc, ↓Zfd, ↓Zfe, ↓Zff, ↓Zfg, ↓Zfh, ↓Zfi, ↓Zfj, ↓Zfk, ↓Zfl, ↓Zfm, ↓Zfn, ↓Zfo, ↓Zfp, ↓Zfq, ↓Zfr, ↓Zfs, ↓Zft, ↓Zfu, ↓Zfv, ↓Zfw, ↓Zfx, ↓Zfy, ↓Zfz, ↓Zga, ↓Zgb, ↓Zgc, ↓Zgd, ↓Zge, ↓Zgf, ↓Zgg, ↓Zgh, ↓Zgi, ↓Zgj, ↓Zgk, ↓Zgl, ↓Zgm, ↓Zgn, ↓Zgo, ↓Zgp, ↓Zgq, ↓Zgr, ↓Zgs, ↓Zgt, ↓Zgu, ↓Zgv, ↓Zgw, ↓Zgx, ↓Zgy, ↓Zgz, ↓Zha, ↓Zhb, ↓Zhc, ↓Zhd, ↓Zhe, ↓Zhf, ↓Zhg, ↓Zhh, ↓Zhi, ↓Zhj, ↓Zhk, ↓Zhl, ↓Zhm, ↓Zhn, ↓Zho, ↓Zhp, ↓Zhq, ↓Zhr, ↓Zhs, ↓Zht, ↓Zhu, ↓Zhv, ↓Zhw, ↓Zhx, ↓Zhy, ↓Zhz, ↓Zia, ↓Zib, ↓Zic, ↓Zid, ↓Zie, ↓Zif, ↓Zig, ↓Zih, ↓Zii, ↓Zij, ↓Zik, ↓Zil, ↓Zim, ↓Zin, ↓Zio, ↓Ziq, ↓Zir, ↓Zis, ↓Zit, ↓Ziu, ↓Ziv, ↓Ziw, ↓Zix, ↓Ziy, ↓Ziz, ↓Zja, ↓Zjb, ↓Zjc, ↓Zjd, ↓Zje, ↓Zjf, ↓Zjg, ↓Zjh, ↓Zji, ↓Zjj, ↓Zjk, ↓Zjl, ↓Zjm, ↓Zjn, ↓Zjo, ↓Zjp, ↓Zjq, ↓Zjr, ↓Zjs, ↓Zjt, ↓Zju, ↓Zjv, ↓Zjw, ↓Zjx, ↓Zjy, ↓Zjz, ↓Zka, ↓Zkb, ↓Zkc, ↓Zkd, ↓Zke, ↓Zkf, ↓Zkg, ↓Zkh, ↓Zki, ↓Zkj, ↓Zkk, ↓Zkl, ↓Zkm, ↓Zkn, ↓Zko, ↓Zkp, ↓Zkq, ↓Zkr, ↓Zks, ↓Zkt, ↓Zku, ↓Zkv, ↓Zkw, ↓Zkx, ↓Zky, ↓Zkz, reduceIte, if_true, if_false, Bool.false_eq_true, Bool.and_true, Bool.true_and, Bool.and_false, Bool.false_and, Bool.or_true, Bool.true_or, Bool.or_false, Bool.false_or, Int.cast_ofNat_Int, Zla, Zlb, beq_self_eq_true, Int.reduceBEq, Int.reduceLT, Int.reduceLE, Int.reduceEq, Int.reduceNeg, Nat.reduceLT, Zlc, Zld, Zle, Zlf, Zlg, Zlh, Zli, Zlj, Zlk, Zll, Zlm, Zln, Zlo, Zlp, Zlq, Zlr, Zls, Zlt, Zlu, Zlv, Zlw, Zlx, Zly, Zlz, Zma, Zmb, Zmc, Zmd, Zme, Zmf, Zmg, Zmh, Zmi, Zmj, Zmk, Zml, Zmm, Zmn, Zmo, Zmp, Zmq, Zmr, Zms, Zmt, Zmu, Zmv, Zmw, Zmx, Zmy, Zmz, Zna, Znb, Znc, Znd, Zne, Znf, Zng, Znh, Zni, Znj, Znk, Znl, Znm, Znn, Zno, List.lookup_nil, Znp, Znq, Option.map_some, Option.map_none, Option.bind_some, Option.bind_none, List.map_nil, List.map_cons, List.nil_append, List.cons_append, List.append_nil, List.length_cons, List.length_nil, Nat.reduceAdd, Nat.reduceLeDiff, Nat.reduceEqDiff, Nat.reduceBEq, decide_true, decide_false, Bool.not_true, Bool.not_false, Znr, Zns, Znt, Znu, Znv, Znw, Znx, Zny, Znz, Zoa, Zob, Zoc, Zod, Zoe, List.getElem?_cons_zero, List.getElem?_cons_succ, Zof, Zog, Zoh, Zoi, Zoj, Zok, Zol, Zom, Zon, Zoo, Zop, Zoq, Zor, Zos, Zot, Zou, Zov, Zow, Zox, Zoy, setX, Zoz, Zpa, Zpb, Int.ofNat_lt, Int.ofNat_le, Zpc, Zpd, Zpe, Zpf, Zpg, Zph, h2]
    refine turn_ok hst .val h3 h4 fun u0 u1 y3 y4 hu k3 k4 => ?_
    simp -implicitDefEqProofs -dsimp only [↓Zaa, ↓Zab, ↓Zac, ↓Zad, ↓Zae, ↓Zaf, ↓Zag, ↓Zah, ↓Zai, ↓Zaj, ↓Zak, ↓Zal, ↓Zam, ↓Zan, ↓Zao, ↓Zap, ↓Zaq, ↓Zar, ↓Zas, ↓Zat, ↓Zau, ↓Zav, ↓Zaw, ↓Zax, ↓Zay, ↓Zaz, ↓Zba, ↓Zbb, ↓Zbc, ↓Zbd, ↓Zbe, ↓Zbf, ↓Zbg, ↓Zbh, ↓Zbi, ↓Zbj, ↓Zbk, ↓Zbl, ↓Zbm, ↓Zbn, ↓Zbo, ↓Zbp, ↓Zbq, ↓Zbr, ↓Zbs, ↓Zbt, ↓Zbu, ↓Zbv, ↓Zbw, ↓Zbx, ↓Zby, ↓Zbz, ↓Zca, ↓Zcb, ↓Zcc, ↓Zcd, ↓Zce, ↓Zcf, ↓Zcg, ↓Zch, ↓Zci, ↓Zcj, ↓Zck, ↓Zcl, ↓Zcm, ↓Zcn, ↓Zco, ↓Zcp, ↓Zcq, ↓Zcr, ↓Zcs, ↓Zct, ↓Zcu, ↓Zcv, ↓Zcw, ↓Zcx, ↓Zcy, ↓Zcz, ↓Zda, ↓Zdb, ↓Zdc, ↓Zdd, ↓Zde, ↓Zdf, ↓Zdg, ↓Zdh, ↓Zdi, ↓Zdj, ↓Zdk, ↓Zdl, ↓Zdm, ↓Zdn, ↓Zdo, ↓Zdp, ↓Zdq, ↓Zdr, ↓Zds, ↓Zdt, ↓Zdu, ↓Zdv, ↓Zdw, ↓Zdx, ↓Zdy, ↓Zdz, ↓Zea, ↓Zeb, ↓Zec, ↓Zed, ↓Zee, ↓Zef, ↓Zeg, ↓Zeh, ↓Zei, ↓Zej, ↓Zek, ↓Zel, ↓Zem, ↓Zen, ↓Zeo, ↓Zep, ↓Zeq, ↓Zer, ↓Zes, ↓Zet, ↓Zeu, ↓Zev, ↓Zew, ↓Zex, ↓Zey, ↓Zez, ↓Zfa, ↓Zfb, ↓Zfc, ↓Zfd, ↓Zfe, ↓Zff, ↓Zfg, ↓Zfh, ↓Zfi, ↓Zfj, ↓Zfk, ↓Zfl, ↓Zfm, ↓Zfn, ↓Zfo, ↓Zfp, ↓Zfq, ↓Zfr, ↓Zfs, ↓Zft, ↓Zfu, ↓Zfv, ↓Zfw, ↓Zfx, ↓Zfy, ↓Zfz, ↓Zga, ↓Zgb, ↓Zgc, ↓Zgd, ↓Zge, ↓Zgf, ↓Zgg, ↓Zgh, ↓Zgi, ↓Zgj, ↓Zgk, ↓Zgl, ↓Zgm, ↓Zgn, ↓Zgo, ↓Zgp, ↓Zgq, ↓Zgr, ↓Zgs, ↓Zgt, ↓Zgu, ↓Zgv, ↓Zgw, ↓Zgx, ↓Zgy, ↓Zgz, ↓Zha, ↓Zhb, ↓Zhc, ↓Zhd, ↓Zhe, ↓Zhf, ↓Zhg, ↓Zhh, ↓Zhi, ↓Zhj, ↓Zhk, ↓Zhl, ↓Zhm, ↓Zhn, ↓Zho, ↓Zhp, ↓Zhq, ↓Zhr, ↓Zhs, ↓Zht, ↓Zhu, ↓Zhv, ↓Zhw, ↓Zhx, ↓Zhy, ↓Zhz, ↓Zia, ↓Zib, ↓Zic, ↓Zid, ↓Zie, ↓Zif, ↓Zig, ↓Zih, ↓Zii, ↓Zij, ↓Zik, ↓Zil, ↓Zim, ↓Zin, ↓Zio, ↓Ziq, ↓Zir, ↓Zis, ↓Zit, ↓Ziu, ↓Ziv, ↓Ziw, ↓Zix, ↓Ziy, ↓Ziz, ↓Zja, ↓Zjb, ↓Zjc, ↓Zjd, ↓Zje, ↓Zjf, ↓Zjg, ↓Zjh, ↓Zji, ↓Zjj, ↓Zjk, ↓Zjl, ↓Zjm, ↓Zjn, ↓Zjo, ↓Zjp, ↓Zjq, ↓Zjr, ↓Zjs, ↓Zjt, ↓Zju, ↓Zjv, ↓Zjw, ↓Zjx, ↓Zjy, ↓Zjz, ↓Zka, ↓Zkb, ↓Zkc, ↓Zkd, ↓Zke, ↓Zkf, ↓Zkg, ↓Zkh, ↓Zki, ↓Zkj, ↓Zkk, ↓Zkl, ↓Zkm, ↓Zkn, ↓Zko, ↓Zkp, ↓Zkq, ↓Zkr, ↓Zks, ↓Zkt, ↓Zku, ↓Zkv, ↓Zkw, ↓Zkx, ↓Zky, ↓Zkz, reduceIte, if_true, if_false, Bool.false_eq_true, Bool.and_true, Bool.true_and, Bool.and_false, Bool.false_and, Bool.or_true, Bool.true_or, Bool.or_false, Bool.false_or, Int.cast_ofNat_Int, Zla, Zlb, beq_self_eq_true, Int.reduceBEq, Int.reduceLT, Int.reduceLE, Int.reduceEq, Int.reduceNeg, Nat.reduceLT, Zlc, Zld, Zle, Zlf, Zlg, Zlh, Zli, Zlj, Zlk, Zll, Zlm, Zln, Zlo, Zlp, Zlq, Zlr, Zls, Zlt, Zlu, Zlv, Zlw, Zlx, Zly, Zlz, Zma, Zmb, Zmc, Zmd, Zme, Zmf, Zmg, Zmh, Zmi, Zmj, Zmk, Zml, Zmm, Zmn, Zmo, Zmp, Zmq, Zmr, Zms, Zmt, Zmu, Zmv, Zmw, Zmx, Zmy, Zmz, Zna, Znb, Znc, Znd, Zne, Znf, Zng, Znh, Zni, Znj, Znk, Znl, Znm, Znn, Zno, List.lookup_nil, Znp, Znq, Option.map_some, Option.map_none, Option.bind_some, Option.bind_none, List.map_nil, List.map_cons, List.nil_append, List.cons_append, List.append_nil, List.length_cons, List.length_nil, Nat.reduceAdd, Nat.reduceLeDiff, Nat.reduceEqDiff, Nat.reduceBEq, decide_true, decide_false, Bool.not_true, Bool.not_false, Znr, Zns, Znt, Znu, Znv, Znw, Znx, Zny, Znz, Zoa, Zob, Zoc, Zod, Zoe, List.getElem?_cons_zero, List.getElem?_cons_succ, Zof, Zog, Zoh, Zoi, Zoj, Zok, Zol, Zom, Zon, Zoo, Zop, Zoq, Zor, Zos, Zot, Zou, Zov, Zow, Zox, Zoy, setX, Zoz, Zpa, Zpb, Int.ofNat_lt, Int.ofNat_le, Zpc, Zpd, Zpe, Zpf, Zpg, Zph]
    exact ⟨u0, u1, _, y3, y4, rfl, .val, k3, k4, hu⟩
  rintro e ⟨t0, t1, x2, x3, x4, rfl, h2, h3, h4, ht⟩
  obtain ⟨v, u0, u1, p6, hv, hv2, hu⟩ := l_abc (k := 2) (n := 7) ht (by decide) (by decide) (by decide)
  have p6 : φ_law_abc [.own true (stD t0 t1), .val (.int 2), .val (.int 7)] = .ok (.d (.str v)) [(0, stD u0 u1)] := p6
  have m9 : pMul (.str v) (.int 9) = some (.d (.str (List.replicate 9 v).flatten)) := mulR (k := 9) (by decide) (by omega)
  have l9 : (List.replicate 9 v).flatten.length ≤ 16777216 := by rw [rep_len]; omega
  have c60 : cut (List.replicate 9 v).flatten none (some 60) = (List.replicate 9 v).flatten.take 60 := Zow (k := 60)
  have q := q_asked (w := (List.replicate 9 v).flatten.take 60) ⟨(Lw.rep hv2).take, by rw [List.length_take]; omega⟩
  simp -implicitDefEqProofs -dsimp only [↓Zaa, ↓Zab, ↓Zac, ↓Zad, ↓Zae, ↓Zaf, ↓Zag, ↓Zah, ↓Zai, ↓Zaj, ↓Zak, ↓Zal, ↓Zam, ↓Zan, ↓Zao, ↓Zap, ↓Zaq, ↓Zar, ↓Zas, ↓Zat, ↓Zau, ↓Zav, ↓Zaw, ↓Zax, ↓Zay, ↓Zaz, ↓Zba, ↓Zbb, ↓Zbc, ↓Zbd, ↓Zbe, ↓Zbf, ↓Zbg, ↓Zbh, ↓Zbi, ↓Zbj, ↓Zbk, ↓Zbl, ↓Zbm, ↓Zbn, ↓Zbo, ↓Zbp, ↓Zbq, ↓Zbr, ↓Zbs, ↓Zbt, ↓Zbu, ↓Zbv, ↓Zbw, ↓Zbx, ↓Zby, ↓Zbz, ↓Zca, ↓Zcb, ↓Zcc, ↓Zcd, ↓Zce, ↓Zcf, ↓Zcg, ↓Zch, ↓Zci, ↓Zcj, ↓Zck, ↓Zcl, ↓Zcm, ↓Zcn, ↓Zco, ↓Zcp, ↓Zcq, ↓Zcr, ↓Zcs, ↓Zct, ↓Zcu, ↓Zcv, ↓Zcw, ↓Zcx, ↓Zcy, ↓Zcz, ↓Zda, ↓Zdb, ↓Zdc, ↓Zdd, ↓Zde, ↓Zdf, ↓Zdg, ↓Zdh, ↓Zdi, ↓Zdj, ↓Zdk, ↓Zdl, ↓Zdm, ↓Zdn, ↓Zdo, ↓Zdp, ↓Zdq, ↓Zdr, ↓Zds, ↓Zdt, ↓Zdu, ↓Zdv, ↓Zdw, ↓Zdx, ↓Zdy, ↓Zdz, ↓Zea, ↓Zeb, ↓Zec, ↓Zed, ↓Zee, ↓Zef, ↓Zeg, ↓Zeh, ↓Zei, ↓Zej, ↓Zek, ↓Zel, ↓Zem, ↓Zen, ↓Zeo, ↓Zep, ↓Zeq, ↓Zer, ↓Zes, ↓Zet, ↓Zeu, ↓Zev, ↓Zew, ↓Zex, ↓Zey, ↓Zez, ↓Zfa, ↓Zfb, ↓Zfc, ↓Zfd, ↓Zfe, ↓Zff, ↓Zfg, ↓Zfh, ↓Zfi, ↓Zfj, ↓Zfk, ↓Zfl, ↓Zfm, ↓Zfn, ↓Zfo, ↓Zfp, ↓Zfq, ↓Zfr, ↓Zfs, ↓Zft, ↓Zfu, ↓Zfv, ↓Zfw, ↓Zfx, ↓Zfy, ↓Zfz, ↓Zga, ↓Zgb, ↓Zgc, ↓Zgd, ↓Zge, ↓Zgf, ↓Zgg, ↓Zgh, ↓Zgi, ↓Zgj, ↓Zgk, ↓Zgl, ↓Zgm, ↓Zgn, ↓Zgo, ↓Zgp, ↓Zgq, ↓Zgr, ↓Zgs, ↓Zgt, ↓Zgu, ↓Zgv, ↓Zgw, ↓Zgx, ↓Zgy, ↓Zgz, ↓Zha, ↓Zhb, ↓Zhc, ↓Zhd, ↓Zhe, ↓Zhf, ↓Zhg, ↓Zhh, ↓Zhi, ↓Zhj, ↓Zhk, ↓Zhl, ↓Zhm, ↓Zhn, ↓Zho, ↓Zhp, ↓Zhq, ↓Zhr, ↓Zhs, ↓Zht, ↓Zhu, ↓Zhv, ↓Zhw, ↓Zhx, ↓Zhy, ↓Zhz, ↓Zia, ↓Zib, ↓Zic, ↓Zid, ↓Zie, ↓Zif, ↓Zig, ↓Zih, ↓Zii, ↓Zij, ↓Zik, ↓Zil, ↓Zim, ↓Zin, ↓Zio, ↓Ziq, ↓Zir, ↓Zis, ↓Zit, ↓Ziu, ↓Ziv, ↓Ziw, ↓Zix, ↓Ziy, ↓Ziz, ↓Zja, ↓Zjb, ↓Zjc, ↓Zjd, ↓Zje, ↓Zjf, ↓Zjg, ↓Zjh, ↓Zji, ↓Zjj, ↓Zjk, ↓Zjl, ↓Zjm, ↓Zjn, ↓Zjo, ↓Zjp, ↓Zjq, ↓Zjr, ↓Zjs, ↓Zjt, ↓Zju, ↓Zjv, ↓Zjw, ↓Zjx, ↓Zjy, ↓Zjz, ↓Zka, ↓Zkb, ↓Zkc, ↓Zkd, ↓Zke, ↓Zkf, ↓Zkg, ↓Zkh, ↓Zki, ↓Zkj, ↓Zkk, ↓Zkl, ↓Zkm, ↓Zkn, ↓Zko, ↓Zkp, ↓Zkq, ↓Zkr, ↓Zks, ↓Zkt, ↓Zku, ↓Zkv, ↓Zkw, ↓Zkx, ↓Zky, ↓Zkz, reduceIte, if_true, if_false, Bool.false_eq_true, Bool.and_true, Bool.true_and, Bool.and_false, Bool.false_and, Bool.or_true, Bool.true_or, Bool.or_false, Bool.false_or, Int.cast_ofNat_Int, Zla, Zlb, beq_self_eq_true, Int.reduceBEq, Int.reduceLT, Int.reduceLE, Int.reduceEq, Int.reduceNeg, Nat.reduceLT, Zlc, Zld, Zle, Zlf, Zlg, Zlh, Zli, Zlj, Zlk, Zll, Zlm, Zln, Zlo, Zlp, Zlq, Zlr, Zls, Zlt, Zlu, Zlv, Zlw, Zlx, Zly, Zlz, Zma, Zmb, Zmc, Zmd, Zme, Zmf, Zmg, Zmh, Zmi, Zmj, Zmk, Zml, Zmm, Zmn, Zmo, Zmp, Zmq, Zmr, Zms, Zmt, Zmu, Zmv, Zmw, Zmx, Zmy, Zmz, Zna, Znb, Znc, Znd, Zne, Znf, Zng, Znh, Zni, Znj, Znk, Znl, Znm, Znn, Zno, List.lookup_nil, Znp, Znq, Option.map_some, Option.map_none, Option.bind_some, Option.bind_none, List.map_nil, List.map_cons, List.nil_append, List.cons_append, List.append_nil, List.length_cons, List.length_nil, Nat.reduceAdd, Nat.reduceLeDiff, Nat.reduceEqDiff, Nat.reduceBEq, decide_true, decide_false, Bool.not_true, Bool.not_false, Znr, Zns, Znt, Znu, Znv, Znw, Znx, Zny, Znz, Zoa, Zob, Zoc, Zod, Zoe, List.getElem?_cons_zero, List.getElem?_cons_succ, Zof, Zog, Zoh, Zoi, Zoj, Zok, Zol, Zom, Zon, Zoo, Zop, Zoq, Zor, Zos, Zot, Zou, Zov, Zow, Zox, Zoy, setX, Zoz, Zpa, Zpb, Int.ofNat_lt, Int.ofNat_le, Zpc, Zpd, Zpe, Zpf, Zpg, Zph, p6, m9, slD_s l9, ↓c60, q, m61, avD_6, told_b b1, told_p b1, told_c b1, told_l (lper_bad (x := .int 1) b1), told_b b2, told_p b2, told_c b2, told_l (lper_bad (x := .int 1) b2), told_b b3, told_p b3, told_c b3, told_l (lper_bad (x := .int 1) b3), told_b b4, told_p b4, told_c b4, told_l (lper_bad (x := .int 1) b4), told_b b5, told_p b5, told_c b5, told_l (lper_bad (x := .int 1) b5), told_b b6, told_p b6, told_c b6, told_l (lper_bad (x := .int 1) b6)]
  refine lc_map (l := [D.int 0, .int 4, .int (-1), .non, .bl true, .str [49]]) (g := id) (fun _ => .bl true) rfl (by decide) (fun x hx => ?_) ?_
  · simp only [wipeE, List.set_cons_zero, List.set_cons_succ]
    have key : φ_law_told_by [.val (.fn 3), .val (.tup [.str [97, 98, 97, 98], x])] = .ok (.d badT) [] := by
      simp only [List.mem_cons, List.not_mem_nil, or_false] at hx
      rcases hx with rfl | rfl | rfl | rfl | rfl | rfl
      · exact told_l (lper_out wa (by decide))
      · exact told_l (lper_out wa (by decide))
      · exact told_l (lper_out wa (by decide))
      · exact told_l (lper_no wa (no_int rfl))
      · exact told_l (lper_no wa no_bool)
      · exact told_l (lper_no wa (no_int rfl))
    simp -implicitDefEqProofs -dsimp only [↓Zaa, ↓Zab, ↓Zac, ↓Zad, ↓Zae, ↓Zaf, ↓Zag, ↓Zah, ↓Zai, ↓Zaj, ↓Zak, ↓Zal, ↓Zam, ↓Zan, ↓Zao, ↓Zap, ↓Zaq, ↓Zar, ↓Zas, ↓Zat, ↓Zau, ↓Zav, ↓Zaw, ↓Zax, ↓Zay, ↓Zaz, ↓Zba, ↓Zbb, ↓Zbc, ↓Zbd, ↓Zbe, ↓Zbf, ↓Zbg, ↓Zbh, ↓Zbi, ↓Zbj, ↓Zbk, ↓Zbl, ↓Zbm, ↓Zbn, ↓Zbo, ↓Zbp, ↓Zbq, ↓Zbr, ↓Zbs, ↓Zbt, ↓Zbu, ↓Zbv, ↓Zbw, ↓Zbx, ↓Zby, ↓Zbz, ↓Zca, ↓Zcb, ↓Zcc, ↓Zcd, ↓Zce, ↓Zcf, ↓Zcg, ↓Zch, ↓Zci, ↓Zcj, ↓Zck, ↓Zcl, ↓Zcm, ↓Zcn, ↓Zco, ↓Zcp, ↓Zcq, ↓Zcr, ↓Zcs, ↓Zct, ↓Zcu, ↓Zcv, ↓Zcw, ↓Zcx, ↓Zcy, ↓Zcz, ↓Zda, ↓Zdb, ↓Zdc, ↓Zdd, ↓Zde, ↓Zdf, ↓Zdg, ↓Zdh, ↓Zdi, ↓Zdj, ↓Zdk, ↓Zdl, ↓Zdm, ↓Zdn, ↓Zdo, ↓Zdp, ↓Zdq, ↓Zdr, ↓Zds, ↓Zdt, ↓Zdu, ↓Zdv, ↓Zdw, ↓Zdx, ↓Zdy, ↓Zdz, ↓Zea, ↓Zeb, ↓Zec, ↓Zed, ↓Zee, ↓Zef, ↓Zeg, ↓Zeh, ↓Zei, ↓Zej, ↓Zek, ↓Zel, ↓Zem, ↓Zen, ↓Zeo, ↓Zep, ↓Zeq, ↓Zer, ↓Zes, ↓Zet, ↓Zeu, ↓Zev, ↓Zew, ↓Zex, ↓Zey, ↓Zez, ↓Zfa, ↓Zfb, ↓Zfc, ↓Zfd, ↓Zfe, ↓Zff, ↓Zfg, ↓Zfh, ↓Zfi, ↓Zfj, ↓Zfk, ↓Zfl, ↓Zfm, ↓Zfn, ↓Zfo, ↓Zfp, ↓Zfq, ↓Zfr, ↓Zfs, ↓Zft, ↓Zfu, ↓Zfv, ↓Zfw, ↓Zfx, ↓Zfy, ↓Zfz, ↓Zga, ↓Zgb, ↓Zgc, ↓Zgd, ↓Zge, ↓Zgf, ↓Zgg, ↓Zgh, ↓Zgi, ↓Zgj, ↓Zgk, ↓Zgl, ↓Zgm, ↓Zgn, ↓Zgo, ↓Zgp, ↓Zgq, ↓Zgr, ↓Zgs, ↓Zgt, ↓Zgu, ↓Zgv, ↓Zgw, ↓Zgx, ↓Zgy, ↓Zgz, ↓Zha, ↓Zhb, ↓Zhc, ↓Zhd, ↓Zhe, ↓Zhf, ↓Zhg, ↓Zhh, ↓Zhi, ↓Zhj, ↓Zhk, ↓Zhl, ↓Zhm, ↓Zhn, ↓Zho, ↓Zhp, ↓Zhq, ↓Zhr, ↓Zhs, ↓Zht, ↓Zhu, ↓Zhv, ↓Zhw, ↓Zhx, ↓Zhy, ↓Zhz, ↓Zia, ↓Zib, ↓Zic, ↓Zid, ↓Zie, ↓Zif, ↓Zig, ↓Zih, ↓Zii, ↓Zij, ↓Zik, ↓Zil, ↓Zim, ↓Zin, ↓Zio, ↓Ziq, ↓Zir, ↓Zis, ↓Zit, ↓Ziu, ↓Ziv, ↓Ziw, ↓Zix, ↓Ziy, ↓Ziz, ↓Zja, ↓Zjb, ↓Zjc, ↓Zjd, ↓Zje, ↓Zjf, ↓Zjg, ↓Zjh, ↓Zji, ↓Zjj, ↓Zjk, ↓Zjl, ↓Zjm, ↓Zjn, ↓Zjo, ↓Zjp, ↓Zjq, ↓Zjr, ↓Zjs, ↓Zjt, ↓Zju, ↓Zjv, ↓Zjw, ↓Zjx, ↓Zjy, ↓Zjz, ↓Zka, ↓Zkb, ↓Zkc, ↓Zkd, ↓Zke, ↓Zkf, ↓Zkg, ↓Zkh, ↓Zki, ↓Zkj, ↓Zkk, ↓Zkl, ↓Zkm, ↓Zkn, ↓Zko, ↓Zkp, ↓Zkq, ↓Zkr, ↓Zks, ↓Zkt, ↓Zku, ↓Zkv, ↓Zkw, ↓Zkx, ↓Zky, ↓Zkz, reduceIte, if_true, if_false, Bool.false_eq_true, Bool.and_true, Bool.true_and, Bool.and_false, Bool.false_and, Bool.or_true, Bool.true_or, Bool.or_false, Bool.false_or, Int.cast_ofNat_Int, Zla, Zlb, beq_self_eq_true, Int.reduceBEq, Int.reduceLT, Int.reduceLE, Int.reduceEq, Int.reduceNeg, Nat.reduceLT, Zlc, Zld, Zle, Zlf, Zlg, Zlh, Zli, Zlj, Zlk, Zll, Zlm, Zln, Zlo, Zlp, Zlq, Zlr, Zls, Zlt, Zlu, Zlv, Zlw, Zlx, Zly, Zlz, Zma, Zmb, Zmc, Zmd, Zme, Zmf, Zmg, Zmh, Zmi, Zmj, Zmk, Zml, Zmm, Zmn, Zmo, Zmp, Zmq, Zmr, Zms, Zmt, Zmu, Zmv, Zmw, Zmx, Zmy, Zmz, Zna, Znb, Znc, Znd, Zne, Znf, Zng, Znh, Zni, Znj, Znk, Znl, Znm, Znn, Zno, List.lookup_nil, Znp, Znq, Option.map_some, Option.map_none, Option.bind_some, Option.bind_none, List.map_nil, List.map_cons, List.nil_append, List.cons_append, List.append_nil, List.length_cons, List.length_nil, Nat.reduceAdd, Nat.reduceLeDiff, Nat.reduceEqDiff, Nat.reduceBEq, decide_true, decide_false, Bool.not_true, Bool.not_false, Znr, Zns, Znt, Znu, Znv, Znw, Znx, Zny, Znz, Zoa, Zob, Zoc, Zod, Zoe, List.getElem?_cons_zero, List.getElem?_cons_succ, Zof, Zog, Zoh, Zoi, Zoj, Zok, Zol, Zom, Zon, Zoo, Zop, Zoq, Zor, Zos, Zot, Zou, Zov, Zow, Zox, Zoy, setX, Zoz, Zpa, Zpb, Int.ofNat_lt, Int.ofNat_le, Zpc, Zpd, Zpe, Zpf, Zpg, Zph, id, key]
    exact ⟨rfl, rfl, trivial⟩
  · have e : bAll [.lst [.bl true, .bl true, .bl true, .bl true, .bl true, .bl true]] = some (.d (.bl true)) := rfl
    simp -implicitDefEqProofs -dsimp only [↓Zaa, ↓Zab, ↓Zac, ↓Zad, ↓Zae, ↓Zaf, ↓Zag, ↓Zah, ↓Zai, ↓Zaj, ↓Zak, ↓Zal, ↓Zam, ↓Zan, ↓Zao, ↓Zap, ↓Zaq, ↓Zar, ↓Zas, ↓Zat, ↓Zau, ↓Zav, ↓Zaw, ↓Zax, ↓Zay, ↓Zaz, ↓Zba, ↓Zbb, ↓Zbc, ↓Zbd, ↓Zbe, ↓Zbf, ↓Zbg, ↓Zbh, ↓Zbi, ↓Zbj, ↓Zbk, ↓Zbl, ↓Zbm, ↓Zbn, ↓Zbo, ↓Zbp, ↓Zbq, ↓Zbr, ↓Zbs, ↓Zbt, ↓Zbu, ↓Zbv, ↓Zbw, ↓Zbx, ↓Zby, ↓Zbz, ↓Zca, ↓Zcb, ↓Zcc, ↓Zcd, ↓Zce, ↓Zcf, ↓Zcg, ↓Zch, ↓Zci, ↓Zcj, ↓Zck, ↓Zcl, ↓Zcm, ↓Zcn, ↓Zco, ↓Zcp, ↓Zcq, ↓Zcr, ↓Zcs, ↓Zct, ↓Zcu, ↓Zcv, ↓Zcw, ↓Zcx, ↓Zcy, ↓Zcz, ↓Zda, ↓Zdb, ↓Zdc, ↓Zdd, ↓Zde, ↓Zdf, ↓Zdg, ↓Zdh, ↓Zdi, ↓Zdj, ↓Zdk, ↓Zdl, ↓Zdm, ↓Zdn, ↓Zdo, ↓Zdp, ↓Zdq, ↓Zdr, ↓Zds, ↓Zdt, ↓Zdu, ↓Zdv, ↓Zdw, ↓Zdx, ↓Zdy, ↓Zdz, ↓Zea, ↓Zeb, ↓Zec, ↓Zed, ↓Zee, ↓Zef, ↓Zeg, ↓Zeh, ↓Zei, ↓Zej, ↓Zek, ↓Zel, ↓Zem, ↓Zen, ↓Zeo, ↓Zep, ↓Zeq, ↓Zer, ↓Zes, ↓Zet, ↓Zeu, ↓Zev, ↓Zew, ↓Zex, ↓Zey, ↓Zez, ↓Zfa, ↓Zfb, ↓Zfc, ↓Zfd, ↓Zfe, ↓Zff, ↓Zfg, ↓Zfh, ↓Zfi, ↓Zfj, ↓Zfk, ↓Zfl, ↓Zfm, ↓Zfn, ↓Zfo, ↓Zfp, ↓Zfq, ↓Zfr, ↓Zfs, ↓Zft, ↓Zfu, ↓Zfv, ↓Zfw, ↓Zfx, ↓Zfy, ↓Zfz, ↓Zga, ↓Zgb, ↓Zgc, ↓Zgd, ↓Zge, ↓Zgf, ↓Zgg, ↓Zgh, ↓Zgi, ↓Zgj, ↓Zgk, ↓Zgl, ↓Zgm, ↓Zgn, ↓Zgo, ↓Zgp, ↓Zgq, ↓Zgr, ↓Zgs, ↓Zgt, ↓Zgu, ↓Zgv, ↓Zgw, ↓Zgx, ↓Zgy, ↓Zgz, ↓Zha, ↓Zhb, ↓Zhc, ↓Zhd, ↓Zhe, ↓Zhf, ↓Zhg, ↓Zhh, ↓Zhi, ↓Zhj, ↓Zhk, ↓Zhl, ↓Zhm, ↓Zhn, ↓Zho, ↓Zhp, ↓Zhq, ↓Zhr, ↓Zhs, ↓Zht, ↓Zhu, ↓Zhv, ↓Zhw, ↓Zhx, ↓Zhy, ↓Zhz, ↓Zia, ↓Zib, ↓Zic, ↓Zid, ↓Zie, ↓Zif, ↓Zig, ↓Zih, ↓Zii, ↓Zij, ↓Zik, ↓Zil, ↓Zim, ↓Zin, ↓Zio, ↓Ziq, ↓Zir, ↓Zis, ↓Zit, ↓Ziu, ↓Ziv, ↓Ziw, ↓Zix, ↓Ziy, ↓Ziz, ↓Zja, ↓Zjb, ↓Zjc, ↓Zjd, ↓Zje, ↓Zjf, ↓Zjg, ↓Zjh, ↓Zji, ↓Zjj, ↓Zjk, ↓Zjl, ↓Zjm, ↓Zjn, ↓Zjo, ↓Zjp, ↓Zjq, ↓Zjr, ↓Zjs, ↓Zjt, ↓Zju, ↓Zjv, ↓Zjw, ↓Zjx, ↓Zjy, ↓Zjz, ↓Zka, ↓Zkb, ↓Zkc, ↓Zkd, ↓Zke, ↓Zkf, ↓Zkg, ↓Zkh, ↓Zki, ↓Zkj, ↓Zkk, ↓Zkl, ↓Zkm, ↓Zkn, ↓Zko, ↓Zkp, ↓Zkq, ↓Zkr, ↓Zks, ↓Zkt, ↓Zku, ↓Zkv, ↓Zkw, ↓Zkx, ↓Zky, ↓Zkz, reduceIte, if_true, if_false, Bool.false_eq_true, Bool.and_true, Bool.true_and, Bool.and_false, Bool.false_and, Bool.or_true, Bool.true_or, Bool.or_false, Bool.false_or, Int.cast_ofNat_Int, Zla, Zlb, beq_self_eq_true, Int.reduceBEq, Int.reduceLT, Int.reduceLE, Int.reduceEq, Int.reduceNeg, Nat.reduceLT, Zlc, Zld, Zle, Zlf, Zlg, Zlh, Zli, Zlj, Zlk, Zll, Zlm, Zln, Zlo, Zlp, Zlq, Zlr, Zls, Zlt, Zlu, Zlv, Zlw, Zlx, Zly, Zlz, Zma, Zmb, Zmc, Zmd, Zme, Zmf, Zmg, Zmh, Zmi, Zmj, Zmk, Zml, Zmm, Zmn, Zmo, Zmp, Zmq, Zmr, Zms, Zmt, Zmu, Zmv, Zmw, Zmx, Zmy, Zmz, Zna, Znb, Znc, Znd, Zne, Znf, Zng, Znh, Zni, Znj, Znk, Znl, Znm, Znn, Zno, List.lookup_nil, Znp, Znq, Option.map_some, Option.map_none, Option.bind_some, Option.bind_none, List.map_nil, List.map_cons, List.nil_append, List.cons_append, List.append_nil, List.length_cons, List.length_nil, Nat.reduceAdd, Nat.reduceLeDiff, Nat.reduceEqDiff, Nat.reduceBEq, decide_true, decide_false, Bool.not_true, Bool.not_false, Znr, Zns, Znt, Znu, Znv, Znw, Znx, Zny, Znz, Zoa, Zob, Zoc, Zod, Zoe, List.getElem?_cons_zero, List.getElem?_cons_succ, Zof, Zog, Zoh, Zoi, Zoj, Zok, Zol, Zom, Zon, Zoo, Zop, Zoq, Zor, Zos, Zot, Zou, Zov, Zow, Zox, Zoy, setX, Zoz, Zpa, Zpb, Int.ofNat_lt, Int.ofNat_le, Zpc, Zpd, Zpe, Zpf, Zpg, Zph, e]
end L2.S.W


set_option Elab.async false
set_option maxRecDepth 100000
open PySem PySem.W PyProof.Rows L2 L2.S L2.S.W
set_option maxRecDepth 100000 in
set_option maxHeartbeats 0 in
theorem PySem.Challenge.cw_seriesroads_k49_whole_borders_and_critic_holds : PySem.Challenge.rw_seriesroads_k49_whole_borders_and_critic.Holds := by
  w_on; o_law; x_head; (case hw => w_witness2)
  k_fill
  refine L2.S.walk_S (l := PySem.Challenge.rw_seriesroads_k49_whole_borders_and_critic) (k := 47) (φ := L2.S.W.φ_law) rfl rfl ⟨rfl, by decide, by decide⟩ (fun w h Y => PySem.W.kIn_of Y) L2.S.W.the_law ?F
  case F =>
    intro w mg fa h KX G hmg
    refine' all_mk KX G hmg ?s1 ?s2 ?s3 ?s4 ?s5 ?s6 ?s7 ?h_m_is_integer ?h_m_is_word ?h_m_check_word ?h_m_border_row ?h_m_border_lengths ?h_m_periods_of ?h_m_periods ?h_m_repeats_about ?h_m_local_at ?h_m_local_period ?h_m_critical_cuts ?h_m__law_state ?h_m__law_take ?h_m__law_told_by ?h_m__law_is_int ?h_m__law_are_ints ?h_m__law_abc ?h_m__law_periods ?h_m__law_local ?h_m__law_asked ?h_m_law ?h_m_Fault ?h_m_Malformed ?h_m_Refused ?h_m_MOST_LONG ?h_z_isinstance ?h_z_int ?h_z_bool ?h_z_str ?h_z_all ?h_z_len ?h_z_enumerate ?h_z_tuple ?h_z_range ?h_z_min ?h_z_max ?h_z_abs ?h_l_is_integer ?h_l_is_word ?h_l_check_word ?h_l_border_row ?h_l_border_lengths ?h_l_periods_of ?h_l_periods ?h_l_repeats_about ?h_l_local_at ?h_l_local_period ?h_l_critical_cuts ?h_l_law_state ?h_l_law_take ?h_l_law_told_by ?h_l_law_is_int ?h_l_law_are_ints ?h_l_law_abc ?h_l_law_periods ?h_l_law_local ?h_l_law_asked ?h_l_law ?h_c_is_integer ?h_k_is_integer ?h_c_is_word ?h_k_is_word ?h_c_check_word ?h_k_check_word ?h_c_border_row ?h_k_border_row ?h_c_border_lengths ?h_k_border_lengths ?h_c_periods_of ?h_k_periods_of ?h_c_periods ?h_k_periods ?h_c_repeats_about ?h_k_repeats_about ?h_c_local_at ?h_k_local_at ?h_c_local_period ?h_k_local_period ?h_c_critical_cuts ?h_k_critical_cuts ?h_c_law_state ?h_k_law_state ?h_c_law_take ?h_k_law_take ?h_c_law_told_by ?h_k_law_told_by ?h_c_law_is_int ?h_k_law_is_int ?h_c_law_are_ints ?h_k_law_are_ints ?h_c_law_abc ?h_k_law_abc ?h_c_law_periods ?h_k_law_periods ?h_c_law_local ?h_k_law_local ?h_c_law_asked ?h_k_law_asked ?h_c_law ?h_k_law ?h_xi_Malformed ?h_kx_Malformed ?h_sx_Malformed ?h_tx_Malformed ?h_xg_Refused ?h_xk_Refused ?h_xs_Refused ?h_xd_Refused ?h_na_Refused_reason ?h_em_Refused_Refused ?h_em_Malformed_Refused ?h_em_Fault_Refused ?h_em_Refused_Malformed ?h_em_Malformed_Malformed ?h_em_Fault_Malformed
    (case s1 => k_is)
    (case s2 => k_is)
    (case s3 => k_is)
    (case s4 => k_is)
    (case s5 => kernel_rfl)
    (case s6 => k_is)
    (case s7 => k_is)
    (case h_m_is_integer => k_is)
    (case h_m_is_word => k_is)
    (case h_m_check_word => k_is)
    (case h_m_border_row => k_is)
    (case h_m_border_lengths => k_is)
    (case h_m_periods_of => k_is)
    (case h_m_periods => k_is)
    (case h_m_repeats_about => k_is)
    (case h_m_local_at => k_is)
    (case h_m_local_period => k_is)
    (case h_m_critical_cuts => k_is)
    (case h_m__law_state => k_is)
    (case h_m__law_take => k_is)
    (case h_m__law_told_by => k_is)
    (case h_m__law_is_int => k_is)
    (case h_m__law_are_ints => k_is)
    (case h_m__law_abc => k_is)
    (case h_m__law_periods => k_is)
    (case h_m__law_local => k_is)
    (case h_m__law_asked => k_is)
    (case h_m_law => k_is)
    (case h_m_Fault => k_is)
    (case h_m_Malformed => k_is)
    (case h_m_Refused => k_is)
    (case h_m_MOST_LONG => k_is)
    (case h_z_isinstance => k_is)
    (case h_z_int => k_is)
    (case h_z_bool => k_is)
    (case h_z_str => k_is)
    (case h_z_all => k_is)
    (case h_z_len => k_is)
    (case h_z_enumerate => k_is)
    (case h_z_tuple => k_is)
    (case h_z_range => k_is)
    (case h_z_min => k_is)
    (case h_z_max => k_is)
    (case h_z_abs => k_is)
    (case h_l_is_integer => k_is)
    (case h_l_is_word => k_is)
    (case h_l_check_word => k_is)
    (case h_l_border_row => k_is)
    (case h_l_border_lengths => k_is)
    (case h_l_periods_of => k_is)
    (case h_l_periods => k_is)
    (case h_l_repeats_about => k_is)
    (case h_l_local_at => k_is)
    (case h_l_local_period => k_is)
    (case h_l_critical_cuts => k_is)
    (case h_l_law_state => k_is)
    (case h_l_law_take => k_is)
    (case h_l_law_told_by => k_is)
    (case h_l_law_is_int => k_is)
    (case h_l_law_are_ints => k_is)
    (case h_l_law_abc => k_is)
    (case h_l_law_periods => k_is)
    (case h_l_law_local => k_is)
    (case h_l_law_asked => k_is)
    (case h_l_law => k_is)
    (case h_c_is_integer => k_is)
    (case h_k_is_integer => k_is)
    (case h_c_is_word => k_is)
    (case h_k_is_word => k_is)
    (case h_c_check_word => k_is)
    (case h_k_check_word => k_is)
    (case h_c_border_row => k_is)
    (case h_k_border_row => k_is)
    (case h_c_border_lengths => k_is)
    (case h_k_border_lengths => k_is)
    (case h_c_periods_of => k_is)
    (case h_k_periods_of => k_is)
    (case h_c_periods => k_is)
    (case h_k_periods => k_is)
    (case h_c_repeats_about => k_is)
    (case h_k_repeats_about => k_is)
    (case h_c_local_at => k_is)
    (case h_k_local_at => k_is)
    (case h_c_local_period => k_is)
    (case h_k_local_period => k_is)
    (case h_c_critical_cuts => k_is)
    (case h_k_critical_cuts => k_is)
    (case h_c_law_state => k_is)
    (case h_k_law_state => k_is)
    (case h_c_law_take => k_is)
    (case h_k_law_take => k_is)
    (case h_c_law_told_by => k_is)
    (case h_k_law_told_by => k_is)
    (case h_c_law_is_int => k_is)
    (case h_k_law_is_int => k_is)
    (case h_c_law_are_ints => k_is)
    (case h_k_law_are_ints => k_is)
    (case h_c_law_abc => k_is)
    (case h_k_law_abc => k_is)
    (case h_c_law_periods => k_is)
    (case h_k_law_periods => k_is)
    (case h_c_law_local => k_is)
    (case h_k_law_local => k_is)
    (case h_c_law_asked => k_is)
    (case h_k_law_asked => k_is)
    (case h_c_law => k_is)
    (case h_k_law => k_is)
    (case h_xi_Malformed => first | k_is | rfl | kernel_rfl)
    (case h_kx_Malformed => k_is)
    (case h_sx_Malformed => k_is)
    (case h_tx_Malformed => k_is)
    (case h_xg_Refused => k_is)
    (case h_xk_Refused => k_is)
    (case h_xs_Refused => k_is)
    (case h_xd_Refused => k_is)
    (case h_na_Refused_reason => k_is)
    (case h_em_Refused_Refused => first | k_is | rfl | kernel_rfl)
    (case h_em_Malformed_Refused => first | k_is | rfl | kernel_rfl)
    (case h_em_Fault_Refused => first | k_is | rfl | kernel_rfl)
    (case h_em_Refused_Malformed => first | k_is | rfl | kernel_rfl)
    (case h_em_Malformed_Malformed => first | k_is | rfl | kernel_rfl)
    (case h_em_Fault_Malformed => first | k_is | rfl | kernel_rfl)
#print axioms PySem.Challenge.cw_seriesroads_k49_whole_borders_and_critic_holds
