import PyProof.Rows.All
import Wide.All
import OpenK.AllK
import Wide.FinOn
import HandS.ForMost
import HandS.Wide
import HandS.TupAny
import HandS.TupMul
import HandS.IsInst
import HandS.Deep
import HandS.RaiseMore
import HandS.TupLe
import PyProof.ReprReads
import HandS.Style
import HandS.Zip
import HandS.More
import PyProof.SumWalkG
import PyProof.WalksMore
import PyProof.StrBlock2
import PySem.Challenge.RW_straightroads_k41_terms_made
set_option Elab.async false
set_option linter.all false
set_option maxRecDepth 100000
set_option maxHeartbeats 4000000
namespace PL
open PySem PySem.Spec PyProof.Rows L2

/-! ### values: nested tuples and lists that nobody changes are values, what is changed stands at an address -/
inductive D where
  | non | bl (b : Bool) | int (i : Int) | str (x : Str) | ty (n : String) | ref (a : Addr)
  | tup (xs : List D) | lst (xs : List D) | dct (ks vs : List D) | dtt (ks vs : List D) | scr (xs : List D)

inductive MO where
  | lst (xs : List D) | dct (ks vs : List D) | dtt (ks vs : List D) | ins (C : Addr) (fs : List (Str × D))

abbrev Sto := Addr → Option MO
abbrev Env' := List (Option D)
def sup (S : Sto) (a : Addr) (o : MO) : Sto := fun b => if b = a then some o else S b
def sdel (S : Sto) (a : Addr) : Sto := fun b => if b = a then none else S b
theorem sup_same {S : Sto} {a : Addr} {o : MO} : sup S a o a = some o := by unfold sup; rw [if_pos rfl]
theorem sup_ne {S : Sto} {a b : Addr} {o : MO} (h : b ≠ a) : sup S a o b = S b := by unfold sup; rw [if_neg h]
theorem sdel_same {S : Sto} {a : Addr} : sdel S a a = none := by unfold sdel; rw [if_pos rfl]
theorem sdel_ne {S : Sto} {a b : Addr} (h : b ≠ a) : sdel S a b = S b := by unfold sdel; rw [if_neg h]

/-- read-only things: tracked and out of the store, or of the written part -/
def RL (K : PySem.W.Frag) (S : Sto) (H : Hp) (a : Addr) (vs : List V) : Prop :=
  (S a = none ∧ Rd H a (.lst vs)) ∨
    ∃ (o : Obj) (its : Array Value) (n : Nat), K.lookup a = some o ∧ o.cls = .type "list" ∧ o.dict = none ∧ o.data = .seq its n ∧ its.size ≤ sizeLine ∧ Vals vs its.toList
def RT (K : PySem.W.Frag) (S : Sto) (H : Hp) (a : Addr) (vs : List V) : Prop :=
  (S a = none ∧ Rd H a (.tup vs)) ∨
    ∃ (o : Obj) (its : Array Value) (n : Nat), K.lookup a = some o ∧ o.cls = .type "tuple" ∧ o.data = .seq its n ∧ its.size ≤ sizeLine ∧ Vals vs its.toList
theorem RL.sq {K : PySem.W.Frag} {S : Sto} {H : Hp} {a : Addr} {vs : List V} (h : RL K S H a vs) : SqL K H a vs := h.imp (fun x => x.2) fun x => x
theorem RT.sq {K : PySem.W.Frag} {S : Sto} {H : Hp} {a : Addr} {vs : List V} (h : RT K S H a vs) : SqT K H a vs := h.imp (fun x => x.2) fun x => x

/-- a key of a dict as a value -/
inductive KyD : D → Key → Prop where
  | int (i : Int) : KyD (.int i) (.inl i)
  | str (x : Str) : KyD (.str x) (.inr x)
inductive KyT : D → List Key → Prop where
  | mk {ds : List D} {ks : List Key} (h : Paired KyD ds ks) : KyT (.tup ds) ks

mutual
inductive RepD (K : PySem.W.Frag) (S : Sto) (H : Hp) : D → V → Prop where
  | non : RepD K S H .non .non
  | bl (b : Bool) : RepD K S H (.bl b) (.bl b)
  | int (i : Int) : RepD K S H (.int i) (.int i)
  | str (x : Str) : RepD K S H (.str x) (.str x)
  | ty (n : String) : RepD K S H (.ty n) (.ty n)
  | ref (a : Addr) : RepD K S H (.ref a) (.ref a)
  | tup {a : Addr} {vs : List V} {ds : List D} (h : RT K S H a vs) (r : RepDs K S H ds vs) : RepD K S H (.tup ds) (.ref a)
  | lst {a : Addr} {vs : List V} {ds : List D} (n : S a = none) (h : H a = some (.lst vs)) (r : RepDs K S H ds vs) : RepD K S H (.lst ds) (.ref a)
  | scr {a : Addr} {vs : List V} {ds : List D} (h : RL K S H a vs) (r : RepDs K S H ds vs) : RepD K S H (.scr ds) (.ref a)
  | dctK {a : Addr} {ks : List Key} {vs : List V} {dk dv : List D} (n : S a = none) (h : H a = some (.dK (ks.zip vs))) (l : ks.length = vs.length) (k : Paired KyD dk ks) (r : RepDs K S H dv vs) : RepD K S H (.dct dk dv) (.ref a)
  | dctT {a : Addr} {ks : List (List Key)} {vs : List V} {dk dv : List D} (n : S a = none) (h : H a = some (.dT (ks.zip vs))) (l : ks.length = vs.length) (k : Paired KyT dk ks) (r : RepDs K S H dv vs) : RepD K S H (.dtt dk dv) (.ref a)
inductive RepDs (K : PySem.W.Frag) (S : Sto) (H : Hp) : List D → List V → Prop where
  | nil : RepDs K S H [] []
  | cons {d : D} {v : V} {ds : List D} {vs : List V} (h : RepD K S H d v) (r : RepDs K S H ds vs) : RepDs K S H (d :: ds) (v :: vs)
end

inductive RepFs (K : PySem.W.Frag) (S : Sto) (H : Hp) : List (Str × D) → List (Str × V) → Prop where
  | nil : RepFs K S H [] []
  | cons {x : Str} {d : D} {v : V} {fs : List (Str × D)} {gs : List (Str × V)} (h : RepD K S H d v) (r : RepFs K S H fs gs) : RepFs K S H ((x, d) :: fs) ((x, v) :: gs)

inductive RepM (K : PySem.W.Frag) (S : Sto) (H : Hp) : MO → HO → Prop where
  | lst {ds : List D} {vs : List V} (r : RepDs K S H ds vs) : RepM K S H (.lst ds) (.lst vs)
  | dK {dk dv : List D} {ks : List Key} {vs : List V} (l : ks.length = vs.length) (k : Paired KyD dk ks) (r : RepDs K S H dv vs) : RepM K S H (.dct dk dv) (.dK (ks.zip vs))
  | dT {dk dv : List D} {ks : List (List Key)} {vs : List V} (l : ks.length = vs.length) (k : Paired KyT dk ks) (r : RepDs K S H dv vs) : RepM K S H (.dtt dk dv) (.dT (ks.zip vs))
  | ins {C dx : Addr} {fs : List (Str × D)} {gs : List (Str × V)} (r : RepFs K S H fs gs) : RepM K S H (.ins C fs) (.ins C dx gs)

def RepS (K : PySem.W.Frag) (S : Sto) (H : Hp) : Prop := ∀ a o, S a = some o → ∃ u, H a = some u ∧ RepM K S H o u
/-- what isn't in the store stays as it is, and out of the store -/
def Ext (S : Sto) (H : Hp) (S' : Sto) (H' : Hp) : Prop := ∀ a u, S a = none → H a = some u → H' a = some u ∧ S' a = none
theorem Ext.refl {S : Sto} {H : Hp} : Ext S H S H := fun _ _ n h => ⟨h, n⟩
theorem Ext.trans {S S1 S2 : Sto} {H H1 H2 : Hp} (a : Ext S H S1 H1) (b : Ext S1 H1 S2 H2) : Ext S H S2 H2 := fun x u n h =>
  let ⟨h1, n1⟩ := a x u n h
  b x u n1 h1

section
variable {K : PySem.W.Frag} {S S' : Sto} {H H' : Hp}
theorem Rd.ext {a : Addr} {u : HO} (e : Ext S H S' H') (n : S a = none) (h : Rd H a u) : Rd H' a u ∧ S' a = none := by
  rcases h with h | ⟨o, h⟩
  · exact ⟨.inl (e a _ n h).1, (e a _ n h).2⟩
  · exact ⟨.inr ⟨o, (e a _ n h).1⟩, (e a _ n h).2⟩
theorem RL.ext {a : Addr} {vs : List V} (e : Ext S H S' H') (h : RL K S H a vs) : RL K S' H' a vs := h.imp (fun x => let q := Rd.ext e x.1 x.2; ⟨q.2, q.1⟩) fun x => x
theorem RT.ext {a : Addr} {vs : List V} (e : Ext S H S' H') (h : RT K S H a vs) : RT K S' H' a vs := h.imp (fun x => let q := Rd.ext e x.1 x.2; ⟨q.2, q.1⟩) fun x => x
mutual
theorem RepD.ext (e : Ext S H S' H') : ∀ {d : D} {v : V}, RepD K S H d v → RepD K S' H' d v
  | _, _, .non => .non
  | _, _, .bl b => .bl b
  | _, _, .int i => .int i
  | _, _, .str x => .str x
  | _, _, .ty n => .ty n
  | _, _, .ref a => .ref a
  | _, _, .tup h r => .tup (h.ext e) (RepDs.ext e r)
  | _, _, .lst n h r => .lst (e _ _ n h).2 (e _ _ n h).1 (RepDs.ext e r)
  | _, _, .scr h r => .scr (h.ext e) (RepDs.ext e r)
  | _, _, .dctK n h l k r => .dctK (e _ _ n h).2 (e _ _ n h).1 l k (RepDs.ext e r)
  | _, _, .dctT n h l k r => .dctT (e _ _ n h).2 (e _ _ n h).1 l k (RepDs.ext e r)
theorem RepDs.ext (e : Ext S H S' H') : ∀ {ds : List D} {vs : List V}, RepDs K S H ds vs → RepDs K S' H' ds vs
  | _, _, .nil => .nil
  | _, _, .cons h r => .cons (RepD.ext e h) (RepDs.ext e r)
end
theorem RepFs.ext (e : Ext S H S' H') : ∀ {fs : List (Str × D)} {gs : List (Str × V)}, RepFs K S H fs gs → RepFs K S' H' fs gs
  | _, _, .nil => .nil
  | _, _, .cons h r => .cons (h.ext e) (RepFs.ext e r)
theorem RepM.ext (e : Ext S H S' H') {o : MO} {u : HO} (h : RepM K S H o u) : RepM K S' H' o u := by
  cases h with
  | lst r => exact .lst (r.ext e)
  | dK l k r => exact .dK l k (r.ext e)
  | dT l k r => exact .dT l k (r.ext e)
  | ins r => exact .ins (r.ext e)
theorem RepDs.len : ∀ {ds : List D} {vs : List V}, RepDs K S H ds vs → ds.length = vs.length
  | _, _, .nil => rfl
  | _, _, .cons _ r => congrArg (· + 1) (RepDs.len r)
theorem RepDs.get : ∀ {ds : List D} {vs : List V} {i : Nat} {d : D}, RepDs K S H ds vs → ds[i]? = some d → ∃ v, vs[i]? = some v ∧ RepD K S H d v
  | _, _, _, _, .nil, e => by simp at e
  | _, _, 0, _, .cons h _, e => by simp at e; subst e; exact ⟨_, rfl, h⟩
  | _, _, i + 1, d, .cons _ t, e => by
    obtain ⟨u, h1, h2⟩ := RepDs.get (i := i) (d := d) t (by simpa using e)
    exact ⟨u, by simpa using h1, h2⟩
theorem RepDs.getV : ∀ {ds : List D} {vs : List V} {i : Nat} {v : V}, RepDs K S H ds vs → vs[i]? = some v → ∃ d, ds[i]? = some d ∧ RepD K S H d v
  | _, _, _, _, .nil, e => by simp at e
  | _, _, 0, _, .cons h _, e => by simp at e; subst e; exact ⟨_, rfl, h⟩
  | _, _, i + 1, v, .cons _ t, e => by
    obtain ⟨u, h1, h2⟩ := RepDs.getV (i := i) (v := v) t (by simpa using e)
    exact ⟨u, by simpa using h1, h2⟩
theorem RepDs.append : ∀ {ds es : List D} {vs us : List V}, RepDs K S H ds vs → RepDs K S H es us → RepDs K S H (ds ++ es) (vs ++ us)
  | _, _, _, _, .nil, s => s
  | _, _, _, _, .cons h r, s => .cons h (RepDs.append r s)
theorem RepDs.take : ∀ {ds : List D} {vs : List V} (n : Nat), RepDs K S H ds vs → RepDs K S H (ds.take n) (vs.take n)
  | _, _, 0, _ => .nil
  | _, _, _ + 1, .nil => .nil
  | _, _, n + 1, .cons h r => .cons h (RepDs.take n r)
theorem RepDs.drop : ∀ {ds : List D} {vs : List V} (n : Nat), RepDs K S H ds vs → RepDs K S H (ds.drop n) (vs.drop n)
  | _, _, 0, r => r
  | _, _, _ + 1, .nil => .nil
  | _, _, n + 1, .cons _ r => RepDs.drop n r
theorem RepDs.set {d : D} {v : V} (h : RepD K S H d v) : ∀ {ds : List D} {vs : List V} (i : Nat), RepDs K S H ds vs → RepDs K S H (ds.set i d) (vs.set i v)
  | _, _, _, .nil => .nil
  | _, _, 0, .cons _ r => .cons h r
  | _, _, i + 1, .cons q r => .cons q (RepDs.set h i r)
theorem RepDs.dropLast {ds : List D} {vs : List V} (r : RepDs K S H ds vs) : RepDs K S H ds.dropLast vs.dropLast := by
  rw [List.dropLast_eq_take, List.dropLast_eq_take, ← r.len]
  exact r.take _
theorem RepDs.one {d : D} {v : V} (h : RepD K S H d v) : RepDs K S H [d] [v] := .cons h .nil
theorem RepFs.lookup {f : Str} : ∀ {fs : List (Str × D)} {gs : List (Str × V)}, RepFs K S H fs gs → (∀ d, fs.lookup f = some d → ∃ v, gs.lookup f = some v ∧ RepD K S H d v) ∧ (fs.lookup f = none → gs.lookup f = none)
  | _, _, .nil => ⟨(fun _ e => by simp at e), (fun _ => rfl)⟩
  | _, _, .cons (x := x) h r => by
    obtain ⟨h1, h2⟩ := RepFs.lookup (f := f) r
    constructor
    · intro d e
      rw [List.lookup_cons] at e ⊢
      cases q : f == x with
      | true => rw [q] at e; cases e; exact ⟨_, rfl, h⟩
      | false => rw [q] at e; exact h1 d e
    · intro e
      rw [List.lookup_cons] at e ⊢
      cases q : f == x with
      | true => rw [q] at e; cases e
      | false => rw [q] at e; exact h2 e
/-- what is in the store is neither a tuple nor frozen -/
theorem RepS.ne {a : Addr} (h : RepS K S H) {u : HO} (e : H a = some u) (d : ∀ o, ¬ RepM K S H o u) : S a = none := by
  cases q : S a with
  | none => rfl
  | some o =>
    obtain ⟨u', h1, h2⟩ := h a o q
    rw [e] at h1; cases h1
    exact (d o h2).elim
theorem RepS.tup {a : Addr} {vs : List V} (h : RepS K S H) (e : H a = some (.tup vs)) : S a = none := h.ne e fun o q => by cases q
theorem RepS.frz {a : Addr} {ob : Obj} {u : HO} (h : RepS K S H) (e : H a = some (.frz ob u)) : S a = none := h.ne e fun o q => by cases q
theorem RepS.free {a : Addr} (h : RepS K S H) (e : H a = none) : S a = none := by
  cases q : S a with
  | none => rfl
  | some o => obtain ⟨u', h1, _⟩ := h a o q; rw [e] at h1; cases h1
/-- a new object that is not in the store -/
theorem Ext.new {p : Addr} {u : HO} (n : H p = none) : Ext S H S (upd H p u) := fun a x hs ha => by
  rw [upd_ne (ne_of_none ha n)]
  exact ⟨ha, hs⟩
theorem RepS.new {p : Addr} {u : HO} (h : RepS K S H) (n : H p = none) : RepS K S (upd H p u) := fun a o e => by
  obtain ⟨x, h1, h2⟩ := h a o e
  exact ⟨x, by rw [upd_ne (ne_of_none h1 n)]; exact h1, h2.ext (Ext.new n)⟩
/-- a new object that is in the store -/
theorem Ext.newS {p : Addr} {u : HO} {o : MO} (n : H p = none) : Ext S H (sup S p o) (upd H p u) := fun a x hs ha => by
  have hp : a ≠ p := ne_of_none ha n
  rw [upd_ne hp, sup_ne hp]
  exact ⟨ha, hs⟩
theorem RepS.newS {p : Addr} {u : HO} {o : MO} (h : RepS K S H) (n : H p = none) (r : RepM K S H o u) : RepS K (sup S p o) (upd H p u) := fun a o' e => by
  by_cases ha : a = p
  · subst ha
    rw [sup_same] at e; cases e
    exact ⟨u, upd_same, r.ext (Ext.newS n)⟩
  · rw [sup_ne ha] at e
    obtain ⟨x, h1, h2⟩ := h a o' e
    exact ⟨x, by rw [upd_ne ha]; exact h1, h2.ext (Ext.newS n)⟩
/-- an object of the store is written -/
theorem Ext.write {p : Addr} {u : HO} {o o' : MO} (i : S p = some o) : Ext S H (sup S p o') (upd H p u) := fun a x hs ha => by
  have hp : a ≠ p := fun e => by subst e; rw [hs] at i; cases i
  rw [upd_ne hp, sup_ne hp]
  exact ⟨ha, hs⟩
theorem RepS.write {p : Addr} {u : HO} {o o' : MO} (h : RepS K S H) (i : S p = some o) (r : RepM K S H o' u) : RepS K (sup S p o') (upd H p u) := fun a o1 e => by
  by_cases ha : a = p
  · subst ha
    rw [sup_same] at e; cases e
    exact ⟨u, upd_same, r.ext (Ext.write i)⟩
  · rw [sup_ne ha] at e
    obtain ⟨x, h1, h2⟩ := h a o1 e
    exact ⟨x, by rw [upd_ne ha]; exact h1, h2.ext (Ext.write i)⟩
/-- a lesser store -/
def SLe (S' S : Sto) : Prop := ∀ a o, S' a = some o → S a = some o
theorem SLe.none {a : Addr} (l : SLe S' S) (h : S a = none) : S' a = none := by
  cases q : S' a with
  | none => rfl
  | some o => rw [l a o q] at h; cases h
theorem SLe.ext (l : SLe S' S) : Ext S H S' H := fun a u n h => ⟨h, l.none n⟩
theorem SLe.rep (l : SLe S' S) (h : RepS K S H) : RepS K S' H := fun a o e =>
  let ⟨u, h1, h2⟩ := h a o (l a o e)
  ⟨u, h1, h2.ext l.ext⟩
theorem SLe.refl : SLe S S := fun _ _ h => h
theorem SLe.del {a : Addr} : SLe (sdel S a) S := fun b o h => by
  by_cases e : b = a
  · subst e; rw [sdel_same] at h; cases h
  · rw [sdel_ne e] at h; exact h
end

/-! ### frames -/
def RepEnv (K : PySem.W.Frag) (S : Sto) (H : Hp) (env : Env') (σ : L2.St) : Prop :=
  env.length = σ.length ∧ ∀ (i : Nat) (d : D), env[i]? = some (some d) → ∃ v, σ[i]? = some (some v) ∧ RepD K S H d v
theorem RepEnv.ext {K : PySem.W.Frag} {S S' : Sto} {H H' : Hp} {env : Env'} {σ : L2.St} (h : RepEnv K S H env σ) (e : Ext S H S' H') : RepEnv K S' H' env σ :=
  ⟨h.1, fun i d q => let ⟨v, a, b⟩ := h.2 i d q; ⟨v, a, b.ext e⟩⟩
theorem RepEnv.set {K : PySem.W.Frag} {S : Sto} {H : Hp} {env : Env'} {σ : L2.St} {i : Nat} {d : D} {v : V} (h : RepEnv K S H env σ) (r : RepD K S H d v) : RepEnv K S H (env.set i (some d)) (σ.set i (some v)) := by
  refine ⟨by simpa using h.1, fun j d' q => ?_⟩
  by_cases hj : i = j
  · subst hj
    have hl : i < env.length := by
      rcases Nat.lt_or_ge i env.length with h1 | h1
      · exact h1
      · rw [List.getElem?_eq_none (by simpa using h1)] at q; cases q
    rw [List.getElem?_set_self hl] at q
    cases q
    exact ⟨v, by rw [List.getElem?_set_self (by rw [← h.1]; exact hl)], r⟩
  · rw [List.getElem?_set_ne hj] at q
    obtain ⟨v', a, b⟩ := h.2 j d' q
    exact ⟨v', by rw [List.getElem?_set_ne hj]; exact a, b⟩
/-- forgetting a place -/
theorem RepEnv.forget {K : PySem.W.Frag} {S : Sto} {H : Hp} {env : Env'} {σ : L2.St} {i : Nat} {o : Option V} (h : RepEnv K S H env σ) : RepEnv K S H (env.set i none) (σ.set i o) := by
  refine ⟨by simpa using h.1, fun j d' q => ?_⟩
  by_cases hj : i = j
  · subst hj
    have hl : i < env.length := by
      rcases Nat.lt_or_ge i env.length with h1 | h1
      · exact h1
      · rw [List.getElem?_eq_none (by simpa using h1)] at q; cases q
    rw [List.getElem?_set_self hl] at q
    cases q
  · rw [List.getElem?_set_ne hj] at q
    obtain ⟨v', a, b⟩ := h.2 j d' q
    exact ⟨v', by rw [List.getElem?_set_ne hj]; exact a, b⟩

/-! ### readings over D -/
abbrev QD := D → Sto → Prop
abbrev TED := Env' → Sto → QD → Prop
abbrev TAD := Env' → Sto → (List D → Sto → Prop) → Prop
abbrev TTD := Env' → Sto → (Bool → Sto → Prop) → Prop
structure EndsD where
  nx : Env' → Sto → Prop
  rt : QD
  bk : Env' → Sto → Prop := fun _ _ => False
  ct : Env' → Sto → Prop := fun _ _ => False
abbrev TSD := EndsD → Env' → Sto → Prop
structure EndsD.Le (a b : EndsD) : Prop where
  nx : ∀ e s, a.nx e s → b.nx e s
  rt : ∀ d s, a.rt d s → b.rt d s
  bk : ∀ e s, a.bk e s → b.bk e s
  ct : ∀ e s, a.ct e s → b.ct e s
theorem EndsD.Le.refl (a : EndsD) : a.Le a := ⟨fun _ _ h => h, fun _ _ h => h, fun _ _ h => h, fun _ _ h => h⟩

def liftE (K : PySem.W.Frag) (t : TED) : TE := fun σ H Q => ∃ env S, RepEnv K S H env σ ∧ RepS K S H ∧
  t env S fun d S' => ∀ v H', RepD K S' H' d v → RepS K S' H' → Ext S H S' H' → Q v H'
def liftA (K : PySem.W.Frag) (t : TAD) : TA := fun σ H Q => ∃ env S, RepEnv K S H env σ ∧ RepS K S H ∧
  t env S fun ds S' => ∀ vs H', RepDs K S' H' ds vs → RepS K S' H' → Ext S H S' H' → Q vs H'
def liftT (K : PySem.W.Frag) (t : TTD) : TT := fun σ H Q => ∃ env S, RepEnv K S H env σ ∧ RepS K S H ∧
  t env S fun b S' => ∀ H', RepS K S' H' → Ext S H S' H' → Q b H'
structure EndsUp (K : PySem.W.Frag) (S : Sto) (H : Hp) (a : EndsD) (b : Ends) : Prop where
  nx : ∀ env S' σ H', RepEnv K S' H' env σ → RepS K S' H' → Ext S H S' H' → a.nx env S' → b.nx σ H'
  rt : ∀ d S' v H', RepD K S' H' d v → RepS K S' H' → Ext S H S' H' → a.rt d S' → b.rt v H'
  bk : ∀ env S' σ H', RepEnv K S' H' env σ → RepS K S' H' → Ext S H S' H' → a.bk env S' → b.bk σ H'
  ct : ∀ env S' σ H', RepEnv K S' H' env σ → RepS K S' H' → Ext S H S' H' → a.ct env S' → b.ct σ H'
theorem EndsUp.ext {K : PySem.W.Frag} {S S1 : Sto} {H H1 : Hp} {a : EndsD} {b : Ends} (u : EndsUp K S H a b) (e : Ext S H S1 H1) : EndsUp K S1 H1 a b :=
  ⟨fun env S' σ H' h1 h2 h3 => u.nx env S' σ H' h1 h2 (e.trans h3), fun d S' v H' h1 h2 h3 => u.rt d S' v H' h1 h2 (e.trans h3),
   fun env S' σ H' h1 h2 h3 => u.bk env S' σ H' h1 h2 (e.trans h3), fun env S' σ H' h1 h2 h3 => u.ct env S' σ H' h1 h2 (e.trans h3)⟩
def liftS (K : PySem.W.Frag) (t : TSD) : TS := fun D σ H => ∃ env S, RepEnv K S H env σ ∧ RepS K S H ∧ ∃ De, EndsUp K S H De D ∧ t De env S

structure DE (X : Cx) (e : Expr) (t : TED) : Prop where
  mono : ∀ env S (Q Q' : QD), (∀ d s, Q d s → Q' d s) → t env S Q → t env S Q'
  run : PE X e (liftE X.K t)
structure DA (X : Cx) (e : List Expr) (t : TAD) : Prop where
  mono : ∀ env S (Q Q' : List D → Sto → Prop), (∀ d s, Q d s → Q' d s) → t env S Q → t env S Q'
  run : PA X e (liftA X.K t)
structure DT (X : Cx) (e : Expr) (t : TTD) : Prop where
  mono : ∀ env S (Q Q' : Bool → Sto → Prop), (∀ d s, Q d s → Q' d s) → t env S Q → t env S Q'
  run : PT X e (liftT X.K t)
structure DS (X : Cx) (st : Stmt) (t : TSD) : Prop where
  mono : ∀ De De' env S, De.Le De' → t De env S → t De' env S
  run : PS X st (liftS X.K t)
structure DSs (X : Cx) (st : List Stmt) (t : TSD) : Prop where
  mono : ∀ De De' env S, De.Le De' → t De env S → t De' env S
  run : PSs X st (liftS X.K t)

theorem pe_imp {X : Cx} {e : Expr} {t t' : TE} (h : PE X e t) (i : ∀ σ H Q, t' σ H Q → t σ H Q) : PE X e t' := ⟨fun pins s σ H Q I q => h.run pins s σ H Q I (i σ H Q q)⟩
theorem pt_imp {X : Cx} {e : Expr} {t t' : TT} (h : PT X e t) (i : ∀ σ H Q, t' σ H Q → t σ H Q) : PT X e t' := ⟨fun pins s σ H Q I q => h.run pins s σ H Q I (i σ H Q q)⟩
theorem pa_imp {X : Cx} {e : List Expr} {t t' : TA} (h : PA X e t) (i : ∀ σ H Q, t' σ H Q → t σ H Q) : PA X e t' := ⟨fun pos pins s σ H Q I q => h.run pos pins s σ H Q I (i σ H Q q)⟩
theorem ps_imp {X : Cx} {e : Stmt} {t t' : TS} (h : PS X e t) (i : ∀ D σ H, t' D σ H → t D σ H) : PS X e t' := ⟨fun pins s σ H D I q => h.run pins s σ H D I (i D σ H q)⟩
theorem pss_imp {X : Cx} {e : List Stmt} {t t' : TS} (h : PSs X e t) (i : ∀ D σ H, t' D σ H → t D σ H) : PSs X e t' := ⟨fun pins s σ H D I q => h.run pins s σ H D I (i D σ H q)⟩
end PL

namespace PL
open PySem PySem.Spec PyProof.Rows L2

def up (K : PySem.W.Frag) (S : Sto) (H : Hp) (Q : VK) : QD := fun d S' => ∀ v H', RepD K S' H' d v → RepS K S' H' → Ext S H S' H' → Q v H'
theorem up_ext {K : PySem.W.Frag} {S S1 : Sto} {H H1 : Hp} {Q : VK} {d : D} {s : Sto} (e : Ext S H S1 H1) (h : up K S H Q d s) : up K S1 H1 Q d s := fun v H' a b c => h v H' a b (e.trans c)

section
variable {X : Cx} {pos : Pos}

/-! ### names, constants -/
def tdVar (i : Nat) : TED := fun env S Q => match env[i]? with
  | some (some d) => Q d S
  | _ => False
def tdC (d : D) : TED := fun _ S Q => Q d S
theorem de_var {i : Nat} {x : Str} (hN : X.N[i]? = some x) (hv : Vis X.env.scope x) (hd : (x == ("__debug__" : Str)) = false := by decide) (hcd : (x == ("__classdict__" : Str)) = false := by decide) : DE X (.Name x pos) (tdVar i) where
  mono := fun env S Q Q' h q => by
    unfold tdVar at q ⊢
    split at q
    · exact h _ _ q
    · exact q.elim
  run := pe_imp (pe_var hN hv hd hcd) fun σ H Q ⟨env, S, he, hs, q⟩ => by
    unfold tdVar at q
    split at q
    · rename_i d e
      obtain ⟨v, e1, r⟩ := he.2 i d e
      exact ⟨v, e1, q v H r hs Ext.refl⟩
    · exact q.elim
theorem de_c {e : Expr} {d : D} {v : V} (h : PE X e (tC v)) (r : ∀ S H, RepD X.K S H d v) : DE X e (tdC d) where
  mono := fun env S Q Q' h q => h _ _ q
  run := pe_imp h fun σ H Q ⟨env, S, he, hs, q⟩ => q v H (r S H) hs Ext.refl
theorem de_int {i j} : DE X (.Constant (.int i) j pos) (tdC (.int i)) := de_c pe_int fun _ _ => .int i
theorem de_bl {b j} : DE X (.Constant (.bool b) j pos) (tdC (.bl b)) := de_c pe_bl fun _ _ => .bl b
theorem de_non {j} : DE X (.Constant .none j pos) (tdC .non) := de_c pe_non fun _ _ => .non
theorem de_str {x j} : DE X (.Constant (.str x) j pos) (tdC (.str x)) := de_c pe_str fun _ _ => .str x
/-- a module's name, of a value that is always the same -/
theorem de_glob {x : Str} {d : D} {v : V} {u : Value} (hg : Gl X x) (hm : X.mg x = some u) (r : RelV v u) (rep : ∀ S H, RepD X.K S H d v) (hd : (x == ("__debug__" : Str)) = false := by decide) : DE X (.Name x pos) (tdC d) := de_c (pe_glob hg hm r hd) rep
theorem de_bltn {x : Str} {n : String} (hg : Gl X x) (hm : X.mg x = none) (hv : bootBuiltins x = some (.type n)) (hn : x ≠ "__name__" := by decide) (hd : (x == ("__debug__" : Str)) = false := by decide) : DE X (.Name x pos) (tdC (.ty n)) := de_c (pe_bltn (v := .ty n) hg hm hv rfl hn hd) fun _ _ => .ty n

/-! ### operators -/
structure DOp (X : Cx) (f : Value → Value → Sem Value) (rd : D → D → Sto → QD → Prop) : Prop where
  mono : ∀ x y S (Q Q' : QD), (∀ d s, Q d s → Q' d s) → rd x y S Q → rd x y S Q'
  run : OpR X f fun vx vy H Q => ∃ S x y, RepS X.K S H ∧ RepD X.K S H x vx ∧ RepD X.K S H y vy ∧ rd x y S (up X.K S H Q)
def tdOp (rd : D → D → Sto → QD → Prop) (ta tb : TED) : TED := fun env S Q => ta env S fun x S1 => tb env S1 fun y S2 => rd x y S2 Q
variable {a b c : Expr} {ta tb tc : TED} {rd rd' : D → D → Sto → QD → Prop}
theorem tdOp_mono (ho : ∀ x y S (Q Q' : QD), (∀ d s, Q d s → Q' d s) → rd x y S Q → rd x y S Q') (ha : DE X a ta) (hb : DE X b tb) : ∀ env S (Q Q' : QD), (∀ d s, Q d s → Q' d s) → tdOp rd ta tb env S Q → tdOp rd ta tb env S Q' :=
  fun env S Q Q' h q => ha.mono _ _ _ _ (fun x s q => hb.mono _ _ _ _ (fun y s q => ho x y s Q Q' h q) q) q
/-- both operands, then what is done with them -/
theorem lift2 (ha : DE X a ta) (hb : DE X b tb) {σ : L2.St} {H : Hp} {Q : VK} {f : V → V → Hp → VK → Prop} (ho : ∀ x y S (Q Q' : QD), (∀ d s, Q d s → Q' d s) → rd x y S Q → rd x y S Q')
    (hf : ∀ vx vy H Q, (∃ S x y, RepS X.K S H ∧ RepD X.K S H x vx ∧ RepD X.K S H y vy ∧ rd x y S (up X.K S H Q)) → f vx vy H Q) (q : liftE X.K (tdOp rd ta tb) σ H Q) :
    liftE X.K ta σ H fun vx H1 => liftE X.K tb σ H1 fun vy H2 => f vx vy H2 Q := by
  obtain ⟨env, S, he, hs, q⟩ := q
  refine ⟨env, S, he, hs, ha.mono _ _ _ _ (fun x S1 q1 v1 H1 r1 s1 e1 => ?_) q⟩
  refine ⟨env, S1, he.ext e1, s1, hb.mono _ _ _ _ (fun y S2 q2 v2 H2 r2 s2 e2 => ?_) q1⟩
  refine hf v1 v2 H2 Q ⟨S2, x, y, s2, r1.ext e2, r2, ho x y S2 _ _ (fun d s h => ?_) q2⟩
  exact up_ext (e1.trans e2) h
theorem de_op {op : Operator} (ho : DOp X (binaryOp op) rd) (ha : DE X a ta) (hb : DE X b tb) : DE X (.BinOp a op b pos) (tdOp rd ta tb) where
  mono := tdOp_mono ho.mono ha hb
  run := pe_imp (pe_op ho.run ha.run hb.run) fun σ H Q q => lift2 ha hb ho.mono (fun _ _ _ _ h => h) q
theorem de_cmp {op : CmpOp} (ho : DOp X (compareOp op) rd) (ha : DE X a ta) (hb : DE X b tb) (hm : behindInMarks op b = false) : DE X (.Compare a [op] [b] pos) (tdOp rd ta tb) where
  mono := tdOp_mono ho.mono ha hb
  run := pe_imp (pe_cmpR ho.run ha.run hb.run hm) fun σ H Q q => lift2 ha hb ho.mono (fun _ _ _ _ h => h) q
/-- what an answer of True or False comes to -/
def qb (Q : Bool → Sto → Prop) : QD := fun d S => match d with
  | .bl k => Q k S
  | _ => False
theorem qb_mono {Q Q' : Bool → Sto → Prop} (h : ∀ b s, Q b s → Q' b s) : ∀ d s, qb Q d s → qb Q' d s := fun d s q => by
  unfold qb at q ⊢
  split at q
  · exact h _ _ q
  · exact q.elim
def tdB (t : TED) : TTD := fun env S Q => t env S (qb Q)
theorem tdB_mono {t : TED} (hm : ∀ env S (Q Q' : QD), (∀ d s, Q d s → Q' d s) → t env S Q → t env S Q') : ∀ env S (Q Q' : Bool → Sto → Prop), (∀ d s, Q d s → Q' d s) → tdB t env S Q → tdB t env S Q' :=
  fun env S Q Q' h q => hm env S _ _ (qb_mono h) q
theorem qb_rep {K : PySem.W.Frag} {S : Sto} {H : Hp} {d : D} {v : V} {Q : Bool → Sto → Prop} (q : qb Q d S) (r : RepD K S H d v) : ∃ k, v = .bl k ∧ Q k S := by
  unfold qb at q
  split at q
  · cases r; exact ⟨_, rfl, q⟩
  · exact q.elim
theorem dt_val {e : Expr} {t : TED} (h : DE X e t) (he : ∀ whole, isTrue e X.env whole = (do let v ← whole; standAt e.pos; holding [v] (truthy v)) := by intro _; rfl) : DT X e (tdB t) where
  mono := tdB_mono h.mono
  run := pt_imp (pt_val h.run he) fun σ H Q ⟨env, S, he, hs, q⟩ =>
    ⟨env, S, he, hs, h.mono _ _ _ _ (fun d S' q v H' r s e => let ⟨k, e1, q1⟩ := qb_rep q r; ⟨k, e1, q1 H' s e⟩) q⟩
theorem dt_cmp {op : CmpOp} (ho : DOp X (compareOp op) rd) (ha : DE X a ta) (hb : DE X b tb) (hm : behindInMarks op b = false) : DT X (.Compare a [op] [b] pos) (tdB (tdOp rd ta tb)) where
  mono := tdB_mono (tdOp_mono ho.mono ha hb)
  run := pt_imp (pt_cmpR ho.run ha.run hb.run hm) fun σ H Q ⟨env, S, he, hs, q⟩ => by
    refine lift2 ha hb ho.mono (fun _ _ _ _ h => h) ⟨env, S, he, hs, tdOp_mono ho.mono ha hb _ _ _ _ (fun d S' q v H' r s e => ?_) q⟩
    obtain ⟨k, e1, q1⟩ := qb_rep q r
    exact ⟨k, e1, q1 H' s e⟩
/-- a < b < c -/
def tdChain (rd rd' : D → D → Sto → QD → Prop) (ta tb tc : TED) : TED := fun env S Q => ta env S fun x S1 => tb env S1 fun y S2 => rd x y S2 (qb fun k S3 => if k = true then tc env S3 fun z S4 => rd' y z S4 Q else Q (.bl false) S3)
theorem tdChain_mono (ho : ∀ x y S (Q Q' : QD), (∀ d s, Q d s → Q' d s) → rd x y S Q → rd x y S Q') (ho' : ∀ x y S (Q Q' : QD), (∀ d s, Q d s → Q' d s) → rd' x y S Q → rd' x y S Q') (ha : DE X a ta) (hb : DE X b tb) (hc : DE X c tc) :
    ∀ env S (Q Q' : QD), (∀ d s, Q d s → Q' d s) → tdChain rd rd' ta tb tc env S Q → tdChain rd rd' ta tb tc env S Q' := fun env S Q Q' h q => by
  refine ha.mono _ _ _ _ (fun x s q => hb.mono _ _ _ _ (fun y s q => ho x y s _ _ (qb_mono fun k s q => ?_) q) q) q
  cases k with
  | true => rw [if_pos rfl] at q ⊢; exact hc.mono _ _ _ _ (fun z s q => ho' y z s _ _ h q) q
  | false => rw [if_neg Bool.false_ne_true] at q ⊢; exact h _ _ q
theorem lift3 (ha : DE X a ta) (hb : DE X b tb) (hc : DE X c tc) {op op' : CmpOp} (ho : DOp X (compareOp op) rd) (ho' : DOp X (compareOp op') rd') {σ : L2.St} {H : Hp} {Q : VK} (q : liftE X.K (tdChain rd rd' ta tb tc) σ H Q) :
    tChain (fun vx vy H Q => ∃ S x y, RepS X.K S H ∧ RepD X.K S H x vx ∧ RepD X.K S H y vy ∧ rd x y S (up X.K S H Q)) (fun vx vy H Q => ∃ S x y, RepS X.K S H ∧ RepD X.K S H x vx ∧ RepD X.K S H y vy ∧ rd' x y S (up X.K S H Q)) (liftE X.K ta) (liftE X.K tb) (liftE X.K tc) σ H Q := by
  obtain ⟨env, S, he, hs, q⟩ := q
  refine ⟨env, S, he, hs, ha.mono _ _ _ _ (fun x S1 q1 v1 H1 r1 s1 e1 => ?_) q⟩
  refine ⟨env, S1, he.ext e1, s1, hb.mono _ _ _ _ (fun y S2 q2 v2 H2 r2 s2 e2 => ?_) q1⟩
  refine ⟨S2, x, y, s2, r1.ext e2, r2, ho.mono x y S2 _ _ (fun d S3 q3 v3 H3 r3 s3 e3 => ?_) q2⟩
  obtain ⟨k, rfl, q3⟩ := qb_rep q3 r3
  refine ⟨k, rfl, ?_⟩
  cases k with
  | true =>
    rw [if_pos rfl] at q3 ⊢
    have e13 := (e1.trans e2).trans e3
    refine ⟨env, S3, he.ext e13, s3, hc.mono _ _ _ _ (fun z S4 q4 v4 H4 r4 s4 e4 => ?_) q3⟩
    exact ⟨S4, y, z, s4, (r2.ext e3).ext e4, r4, ho'.mono y z S4 _ _ (fun d s h => up_ext (e13.trans e4) h) q4⟩
  | false =>
    rw [if_neg Bool.false_ne_true] at q3 ⊢
    exact q3 _ _ (.bl false) s3 ((e1.trans e2).trans e3)
theorem de_chain {op op' : CmpOp} (ho : DOp X (compareOp op) rd) (ho' : DOp X (compareOp op') rd') (ha : DE X a ta) (hb : DE X b tb) (hc : DE X c tc) (hm : lastMarks [op, op'] [b, c] = false := by with_unfolding_all rfl) :
    DE X (.Compare a [op, op'] [b, c] pos) (tdChain rd rd' ta tb tc) where
  mono := tdChain_mono ho.mono ho'.mono ha hb hc
  run := pe_imp (pe_chain ho.run ho'.run ha.run hb.run hc.run hm) fun σ H Q q => lift3 ha hb hc ho ho' q
theorem dt_chain {op op' : CmpOp} (ho : DOp X (compareOp op) rd) (ho' : DOp X (compareOp op') rd') (ha : DE X a ta) (hb : DE X b tb) (hc : DE X c tc) (hm : lastMarks [op, op'] [b, c] = false := by with_unfolding_all rfl) :
    DT X (.Compare a [op, op'] [b, c] pos) (tdB (tdChain rd rd' ta tb tc)) where
  mono := tdB_mono (tdChain_mono ho.mono ho'.mono ha hb hc)
  run := pt_imp (pt_chain ho.run ho'.run ha.run hb.run hc.run hm) fun σ H Q ⟨env, S, he, hs, q⟩ => by
    refine lift3 ha hb hc ho ho' ⟨env, S, he, hs, tdChain_mono ho.mono ho'.mono ha hb hc _ _ _ _ (fun d S' q v H' r s e => ?_) q⟩
    obtain ⟨k, e1, q1⟩ := qb_rep q r
    exact ⟨k, e1, q1 H' s e⟩

/-! ### one operand -/
structure DUn (X : Cx) (f : Value → Sem Value) (rd : D → Sto → QD → Prop) : Prop where
  mono : ∀ x S (Q Q' : QD), (∀ d s, Q d s → Q' d s) → rd x S Q → rd x S Q'
  run : UnR X f fun vx H Q => ∃ S x, RepS X.K S H ∧ RepD X.K S H x vx ∧ rd x S (up X.K S H Q)
def tdUn (rd : D → Sto → QD → Prop) (ta : TED) : TED := fun env S Q => ta env S fun x S1 => rd x S1 Q
theorem de_un {op : UnaryOp} {rd : D → Sto → QD → Prop} (ho : DUn X (unaryOp op) rd) (ha : DE X a ta) : DE X (.UnaryOp op a pos) (tdUn rd ta) where
  mono := fun env S Q Q' h q => ha.mono _ _ _ _ (fun x s q => ho.mono x s Q Q' h q) q
  run := pe_imp (pe_un ho.run ha.run) fun σ H Q ⟨env, S, he, hs, q⟩ =>
    ⟨env, S, he, hs, ha.mono _ _ _ _ (fun x S1 q1 v1 H1 r1 s1 e1 => ⟨S1, x, s1, r1, ho.mono x S1 _ _ (fun d s h => up_ext e1 h) q1⟩) q⟩
def rdNeg : D → Sto → QD → Prop := fun x S Q => match x with
  | .int i => Q (.int (-i)) S
  | _ => False
theorem dun_neg : DUn X (unaryOp .USub) rdNeg where
  mono := fun x S Q Q' h q => by
    unfold rdNeg at q ⊢
    split at q
    · exact h _ _ q
    · exact q.elim
  run := fun pins s σ H vx v Q I rx ⟨S, x, hs, r, q⟩ => by
    unfold rdNeg at q
    split at q
    · cases r
      exact un_neg pins s σ H _ v Q I rx ⟨_, rfl, q _ _ (.int _) hs Ext.refl⟩
    · exact q.elim

/-! ### and, or, not, if -/
variable {tA tB tC' : TTD} {rest : List Expr}
def tdAnd (t u : TTD) : TTD := fun env S Q => t env S fun k S1 => if k = true then u env S1 Q else Q false S1
def tdOr (t u : TTD) : TTD := fun env S Q => t env S fun k S1 => if k = true then Q true S1 else u env S1 Q
def tdNot (t : TTD) : TTD := fun env S Q => t env S fun k S1 => Q (!k) S1
structure DW (X : Cx) (e : Expr) (t : TTD) : Prop where
  mono : ∀ env S (Q Q' : Bool → Sto → Prop), (∀ d s, Q d s → Q' d s) → t env S Q → t env S Q'
  run : PW X e (liftT X.K t)
theorem pw_imp {e : Expr} {t t' : TT} (h : PW X e t) (i : ∀ σ H Q, t' σ H Q → t σ H Q) : PW X e t' := ⟨fun w pins s σ H Q I q => h.run w pins s σ H Q I (i σ H Q q)⟩
theorem DW.dt {e : Expr} {t : TTD} (h : DW X e t) : DT X e t := ⟨h.mono, h.run.pt⟩
theorem dw_and1 (ha : DT X a tA) : DW X (.BoolOp .And [a] pos) tA := ⟨ha.mono, pw_and1 ha.run⟩
theorem dw_or1 (ha : DT X a tA) : DW X (.BoolOp .Or [a] pos) tA := ⟨ha.mono, pw_or1 ha.run⟩
theorem dw_and (ha : DT X a tA) (hb : DW X (.BoolOp .And (b :: rest) pos) tB) : DW X (.BoolOp .And (a :: b :: rest) pos) (tdAnd tA tB) where
  mono := fun env S Q Q' h q => ha.mono _ _ _ _ (fun k s q => by
    cases k with
    | true => rw [if_pos rfl] at q ⊢; exact hb.mono _ _ _ _ h q
    | false => rw [if_neg Bool.false_ne_true] at q ⊢; exact h _ _ q) q
  run := pw_imp (pw_and ha.run hb.run) fun σ H Q ⟨env, S, he, hs, q⟩ => ⟨env, S, he, hs, ha.mono _ _ _ _ (fun k S1 q1 H1 s1 e1 => by
    cases k with
    | true =>
      rw [if_pos rfl] at q1 ⊢
      exact ⟨env, S1, he.ext e1, s1, hb.mono _ _ _ _ (fun b s q H2 s2 e2 => q H2 s2 (e1.trans e2)) q1⟩
    | false => rw [if_neg Bool.false_ne_true] at q1 ⊢; exact q1 H1 s1 e1) q⟩
theorem dw_or (ha : DT X a tA) (hb : DW X (.BoolOp .Or (b :: rest) pos) tB) : DW X (.BoolOp .Or (a :: b :: rest) pos) (tdOr tA tB) where
  mono := fun env S Q Q' h q => ha.mono _ _ _ _ (fun k s q => by
    cases k with
    | true => rw [if_pos rfl] at q ⊢; exact h _ _ q
    | false => rw [if_neg Bool.false_ne_true] at q ⊢; exact hb.mono _ _ _ _ h q) q
  run := pw_imp (pw_or ha.run hb.run) fun σ H Q ⟨env, S, he, hs, q⟩ => ⟨env, S, he, hs, ha.mono _ _ _ _ (fun k S1 q1 H1 s1 e1 => by
    cases k with
    | true => rw [if_pos rfl] at q1 ⊢; exact q1 H1 s1 e1
    | false =>
      rw [if_neg Bool.false_ne_true] at q1 ⊢
      exact ⟨env, S1, he.ext e1, s1, hb.mono _ _ _ _ (fun b s q H2 s2 e2 => q H2 s2 (e1.trans e2)) q1⟩) q⟩
theorem dt_not (ha : DT X a tA) : DT X (.UnaryOp .Not a pos) (tdNot tA) where
  mono := fun env S Q Q' h q => ha.mono _ _ _ _ (fun k s q => h _ _ q) q
  run := pt_imp (pt_not ha.run) fun σ H Q ⟨env, S, he, hs, q⟩ => ⟨env, S, he, hs, ha.mono _ _ _ _ (fun k S1 q1 H1 s1 e1 => q1 H1 s1 e1) q⟩
/-- .. as values: all but the last True or False -/
def tdAndV (t u : TED) : TED := fun env S Q => t env S (qb fun k S1 => if k = true then u env S1 Q else Q (.bl false) S1)
def tdOrV (t u : TED) : TED := fun env S Q => t env S (qb fun k S1 => if k = true then Q (.bl true) S1 else u env S1 Q)
theorem de_one {op} {t : TED} (h : DE X a t) : DE X (.BoolOp op [a] pos) t := ⟨h.mono, pe_one h.run⟩
theorem de_and (ha : DE X a ta) (hb : DE X (.BoolOp .And (b :: rest) pos) tb) : DE X (.BoolOp .And (a :: b :: rest) pos) (tdAndV ta tb) where
  mono := fun env S Q Q' h q => ha.mono _ _ _ _ (qb_mono fun k s q => by
    cases k with
    | true => rw [if_pos rfl] at q ⊢; exact hb.mono _ _ _ _ h q
    | false => rw [if_neg Bool.false_ne_true] at q ⊢; exact h _ _ q) q
  run := pe_imp (pe_and ha.run hb.run) fun σ H Q ⟨env, S, he, hs, q⟩ => ⟨env, S, he, hs, ha.mono _ _ _ _ (fun d S1 q1 v1 H1 r1 s1 e1 => by
    obtain ⟨k, rfl, q1⟩ := qb_rep q1 r1
    refine ⟨k, rfl, ?_⟩
    cases k with
    | true =>
      rw [if_pos rfl] at q1 ⊢
      exact ⟨env, S1, he.ext e1, s1, hb.mono _ _ _ _ (fun d s h => up_ext e1 h) q1⟩
    | false => rw [if_neg Bool.false_ne_true] at q1 ⊢; exact q1 _ H1 (.bl false) s1 e1) q⟩
theorem de_or (ha : DE X a ta) (hb : DE X (.BoolOp .Or (b :: rest) pos) tb) : DE X (.BoolOp .Or (a :: b :: rest) pos) (tdOrV ta tb) where
  mono := fun env S Q Q' h q => ha.mono _ _ _ _ (qb_mono fun k s q => by
    cases k with
    | true => rw [if_pos rfl] at q ⊢; exact h _ _ q
    | false => rw [if_neg Bool.false_ne_true] at q ⊢; exact hb.mono _ _ _ _ h q) q
  run := pe_imp (pe_or ha.run hb.run) fun σ H Q ⟨env, S, he, hs, q⟩ => ⟨env, S, he, hs, ha.mono _ _ _ _ (fun d S1 q1 v1 H1 r1 s1 e1 => by
    obtain ⟨k, rfl, q1⟩ := qb_rep q1 r1
    refine ⟨k, rfl, ?_⟩
    cases k with
    | true => rw [if_pos rfl] at q1 ⊢; exact q1 _ H1 (.bl true) s1 e1
    | false =>
      rw [if_neg Bool.false_ne_true] at q1 ⊢
      exact ⟨env, S1, he.ext e1, s1, hb.mono _ _ _ _ (fun d s h => up_ext e1 h) q1⟩) q⟩
def tdNotV (t : TED) : TED := fun env S Q => t env S (qb fun k S1 => Q (.bl (!k)) S1)
theorem de_not (ha : DE X a ta) : DE X (.UnaryOp .Not a pos) (tdNotV ta) where
  mono := fun env S Q Q' h q => ha.mono _ _ _ _ (qb_mono fun k s q => h _ _ q) q
  run := pe_imp (pe_not ha.run) fun σ H Q ⟨env, S, he, hs, q⟩ => ⟨env, S, he, hs, ha.mono _ _ _ _ (fun d S1 q1 v1 H1 r1 s1 e1 => by
    obtain ⟨k, rfl, q1⟩ := qb_rep q1 r1
    exact ⟨k, rfl, q1 _ H1 (.bl _) s1 e1⟩) q⟩
def tdIf (t : TTD) (ta tb : TED) : TED := fun env S Q => t env S fun k S1 => if k = true then ta env S1 Q else tb env S1 Q
theorem de_if (hc : DT X c tA) (ha : DE X a ta) (hb : DE X b tb) : DE X (.IfExp c a b pos) (tdIf tA ta tb) where
  mono := fun env S Q Q' h q => hc.mono _ _ _ _ (fun k s q => by
    cases k with
    | true => rw [if_pos rfl] at q ⊢; exact ha.mono _ _ _ _ h q
    | false => rw [if_neg Bool.false_ne_true] at q ⊢; exact hb.mono _ _ _ _ h q) q
  run := pe_imp (pe_ifExp hc.run ha.run hb.run) fun σ H Q ⟨env, S, he, hs, q⟩ => ⟨env, S, he, hs, hc.mono _ _ _ _ (fun k S1 q1 H1 s1 e1 => by
    cases k with
    | true =>
      rw [if_pos rfl] at q1 ⊢
      exact ⟨env, S1, he.ext e1, s1, ha.mono _ _ _ _ (fun d s h => up_ext e1 h) q1⟩
    | false =>
      rw [if_neg Bool.false_ne_true] at q1 ⊢
      exact ⟨env, S1, he.ext e1, s1, hb.mono _ _ _ _ (fun d s h => up_ext e1 h) q1⟩) q⟩

/-! ### argument lists, displays -/
def tdNil : TAD := fun _ S Q => Q [] S
def tdCons (ta : TED) (tr : TAD) : TAD := fun env S Q => ta env S fun x S1 => tr env S1 fun xs S2 => Q (x :: xs) S2
variable {e : Expr} {es : List Expr} {te : TED} {tr : TAD}
theorem da_nil : DA X [] tdNil where
  mono := fun env S Q Q' h q => h _ _ q
  run := pa_imp pa_nil fun σ H Q ⟨env, S, he, hs, q⟩ => q [] H .nil hs Ext.refl
theorem da_cons (ha : DE X e te) (hr : DA X es tr) (hs : starEach (e :: es) X.env = (false, eval e X.env) :: starEach es X.env := by rfl) : DA X (e :: es) (tdCons te tr) where
  mono := fun env S Q Q' h q => ha.mono _ _ _ _ (fun x s q => hr.mono _ _ _ _ (fun xs s q => h _ _ q) q) q
  run := pa_imp (pa_cons ha.run hr.run hs) fun σ H Q ⟨env, S, he, hs, q⟩ => ⟨env, S, he, hs, ha.mono _ _ _ _ (fun x S1 q1 v1 H1 r1 s1 e1 =>
    ⟨env, S1, he.ext e1, s1, hr.mono _ _ _ _ (fun xs S2 q2 vs H2 r2 s2 e2 => q2 (v1 :: vs) H2 (.cons (r1.ext e2) r2) s2 (e1.trans e2)) q1⟩) q⟩
def tdTup (t : TAD) : TED := fun env S Q => t env S fun ds S1 => ds.length ≤ sizeLine ∧ Q (.tup ds) S1
def tdLst (t : TAD) : TED := fun env S Q => t env S fun ds S1 => ds.length ≤ sizeLine ∧ Q (.lst ds) S1
/-- a list that will be changed -/
def tdLstR (t : TAD) : TED := fun env S Q => t env S fun ds S1 => ds.length ≤ sizeLine ∧ ∀ p, S1 p = none → Q (.ref p) (sup S1 p (.lst ds))
theorem rep_newT {K : PySem.W.Frag} {S : Sto} {H : Hp} {p : Addr} {ds : List D} {vs : List V} (r : RepDs K S H ds vs) (hs : RepS K S H) (n : H p = none) : RepD K S (upd H p (.tup vs)) (.tup ds) (.ref p) :=
  .tup (.inl ⟨hs.free n, .inl upd_same⟩) (r.ext (Ext.new n))
theorem rep_newL {K : PySem.W.Frag} {S : Sto} {H : Hp} {p : Addr} {ds : List D} {vs : List V} (r : RepDs K S H ds vs) (hs : RepS K S H) (n : H p = none) : RepD K S (upd H p (.lst vs)) (.lst ds) (.ref p) :=
  .lst (hs.free n) upd_same (r.ext (Ext.new n))
theorem de_tup {k} (h : DA X es tr) : DE X (.Tuple es k pos) (tdTup tr) where
  mono := fun env S Q Q' hq q => h.mono _ _ _ _ (fun ds s q => ⟨q.1, hq _ _ q.2⟩) q
  run := pe_imp (pe_tup h.run) fun σ H Q ⟨env, S, he, hs, q⟩ => ⟨env, S, he, hs, h.mono _ _ _ _ (fun ds S1 q1 vs H1 r1 s1 e1 =>
    ⟨by rw [← r1.len]; exact q1.1, fun p n => q1.2 _ _ (rep_newT r1 s1 n) (s1.new n) (e1.trans (Ext.new n))⟩) q⟩
theorem de_lst (h : DA X es tr) : DE X (.List es pos) (tdLst tr) where
  mono := fun env S Q Q' hq q => h.mono _ _ _ _ (fun ds s q => ⟨q.1, hq _ _ q.2⟩) q
  run := pe_imp (pe_lst h.run) fun σ H Q ⟨env, S, he, hs, q⟩ => ⟨env, S, he, hs, h.mono _ _ _ _ (fun ds S1 q1 vs H1 r1 s1 e1 =>
    ⟨by rw [← r1.len]; exact q1.1, fun p n => q1.2 _ _ (rep_newL r1 s1 n) (s1.new n) (e1.trans (Ext.new n))⟩) q⟩
theorem de_lstR (h : DA X es tr) : DE X (.List es pos) (tdLstR tr) where
  mono := fun env S Q Q' hq q => h.mono _ _ _ _ (fun ds s q => ⟨q.1, fun p n => hq _ _ (q.2 p n)⟩) q
  run := pe_imp (pe_lst h.run) fun σ H Q ⟨env, S, he, hs, q⟩ => ⟨env, S, he, hs, h.mono _ _ _ _ (fun ds S1 q1 vs H1 r1 s1 e1 =>
    ⟨by rw [← r1.len]; exact q1.1, fun p n => q1.2 p (s1.free n) _ _ (.ref p) (s1.newS n (.lst r1)) (e1.trans (Ext.newS n))⟩) q⟩
end
end PL

namespace PL
open PySem PySem.Spec PyProof.Rows L2

/-! ### data -/
mutual
def pyd : D → PyData
  | .non => .none
  | .bl b => .bool b
  | .int i => .int i
  | .str x => .str x
  | .tup ds => .tuple (pyds ds)
  | .lst ds => .list (pyds ds)
  | .ty _ => .none
  | .ref _ => .none
  | .dct _ _ => .none
  | .dtt _ _ => .none
  | .scr _ => .none
def pyds : List D → List PyData
  | [] => []
  | d :: r => pyd d :: pyds r
end
mutual
def isDt : D → Bool
  | .non => true
  | .bl _ => true
  | .int _ => true
  | .str _ => true
  | .tup ds => isDts ds
  | .lst ds => isDts ds
  | .ty _ => false
  | .ref _ => false
  | .dct _ _ => false
  | .dtt _ _ => false
  | .scr _ => false
def isDts : List D → Bool
  | [] => true
  | d :: r => isDt d && isDts r
end
section
variable {K : PySem.W.Frag} {S : Sto} {H : Hp}
mutual
theorem dp_of : ∀ {d : D} {v : V}, isDt d = true → RepD K S H d v → Dp K H v (pyd d)
  | .non, _, _, h => by cases h; exact .non
  | .bl b, _, _, h => by cases h; exact .bl b
  | .int i, _, _, h => by cases h; exact .int i
  | .str x, _, _, h => by cases h; exact .str x
  | .tup ds, _, e, h => by
    cases h with
    | tup h r => exact .tup h.sq (dps_of (by unfold isDt at e; exact e) r)
  | .lst ds, _, e, h => by
    cases h with
    | lst n h r => exact .lst (.inl (.inl h)) (dps_of (by unfold isDt at e; exact e) r)
  | .ty _, _, e, _ => by unfold isDt at e; cases e
  | .ref _, _, e, _ => by unfold isDt at e; cases e
  | .dct _ _, _, e, _ => by unfold isDt at e; cases e
  | .dtt _ _, _, e, _ => by unfold isDt at e; cases e
  | .scr _, _, e, _ => by unfold isDt at e; cases e
theorem dps_of : ∀ {ds : List D} {vs : List V}, isDts ds = true → RepDs K S H ds vs → DpAll K H vs (pyds ds)
  | [], _, _, h => by cases h; exact .nil
  | d :: r, _, e, h => by
    cases h with
    | cons h t =>
      unfold isDts at e
      have e2 := Bool.and_eq_true_iff.mp e
      exact .cons (dp_of e2.1 h) (dps_of e2.2 t)
end
end

/-- a list of the store is seen as what it holds -/
def res (S : Sto) : D → D
  | .ref a => match S a with
    | some (.lst ds) => .lst ds
    | _ => .ref a
  | d => d
def getL (S : Sto) : D → Option (List D)
  | .lst ds => some ds
  | .ref a => match S a with
    | some (.lst ds) => some ds
    | _ => none
  | _ => none
def getQ (S : Sto) : D → Option (List D)
  | .lst ds => some ds
  | .tup ds => some ds
  | .scr ds => some ds
  | .ref a => match S a with
    | some (.lst ds) => some ds
    | _ => none
  | _ => none
section
variable {K : PySem.W.Frag} {S : Sto} {H : Hp} {d : D} {v : V} {ds : List D}
theorem getL_rep (hs : RepS K S H) (r : RepD K S H d v) (e : getL S d = some ds) : ∃ a vs, v = .ref a ∧ H a = some (.lst vs) ∧ RepDs K S H ds vs := by
  unfold getL at e
  split at e
  · cases e
    cases r with
    | lst n h r => exact ⟨_, _, rfl, h, r⟩
  · split at e
    · cases e
      rename_i q
      obtain ⟨u, h1, h2⟩ := hs _ _ q
      cases h2 with
      | lst r2 => cases r; exact ⟨_, _, rfl, h1, r2⟩
    · cases e
  · cases e
theorem getQ_rep (hs : RepS K S H) (r : RepD K S H d v) (e : getQ S d = some ds) : ∃ a vs, v = .ref a ∧ (SqL K H a vs ∨ SqT K H a vs) ∧ RepDs K S H ds vs := by
  unfold getQ at e
  split at e
  · cases e
    cases r with
    | lst n h r => exact ⟨_, _, rfl, .inl (.inl (.inl h)), r⟩
  · cases e
    cases r with
    | tup h r => exact ⟨_, _, rfl, .inr h.sq, r⟩
  · cases e
    cases r with
    | scr h r => exact ⟨_, _, rfl, .inl h.sq, r⟩
  · split at e
    · cases e
      rename_i q
      obtain ⟨u, h1, h2⟩ := hs _ _ q
      cases h2 with
      | lst r2 => cases r; exact ⟨_, _, rfl, .inl (.inl (.inl h1)), r2⟩
    · cases e
  · cases e
/-- what is seen as data -/
theorem res_dp (hs : RepS K S H) (r : RepD K S H d v) (e : isDt (res S d) = true) : Dp K H v (pyd (res S d)) := by
  cases d with
  | ref a =>
    simp only [res] at e ⊢
    cases q : S a with
    | none => simp only [q] at e; unfold isDt at e; cases e
    | some o =>
      cases o with
      | lst ds =>
        simp only [q] at e ⊢
        obtain ⟨u, h1, h2⟩ := hs a _ q
        cases h2 with
        | lst r2 =>
          cases r
          unfold isDt at e
          unfold pyd
          exact .lst (.inl (.inl h1)) (dps_of e r2)
      | dct ks vs => simp only [q] at e; unfold isDt at e; cases e
      | dtt ks vs => simp only [q] at e; unfold isDt at e; cases e
      | ins C fs => simp only [q] at e; unfold isDt at e; cases e
  | non => exact dp_of e r
  | bl b => exact dp_of e r
  | int i => exact dp_of e r
  | str x => exact dp_of e r
  | ty n => exact dp_of e r
  | tup ds => exact dp_of e r
  | lst ds => exact dp_of e r
  | dct a b => exact dp_of e r
  | dtt a b => exact dp_of e r
  | scr a => exact dp_of e r
end

section
variable {X : Cx}

/-! ### operators whose answer is a value: a condition, the value -/
abbrev PR := Option (Prop × D)
def rdP (f : Sto → D → D → PR) : D → D → Sto → QD → Prop := fun x y S Q => match f S x y with
  | some p => p.1 ∧ Q p.2 S
  | none => False
theorem rdP_mono {f : Sto → D → D → PR} : ∀ x y S (Q Q' : QD), (∀ d s, Q d s → Q' d s) → rdP f x y S Q → rdP f x y S Q' := fun x y S Q Q' h q => by
  unfold rdP at q ⊢
  split at q
  · exact ⟨q.1, h _ _ q.2⟩
  · exact q.elim
theorem rdP_some {f : Sto → D → D → PR} {x y : D} {S : Sto} {Q : QD} (q : rdP f x y S Q) : ∃ c d, f S x y = some (c, d) ∧ c ∧ Q d S := by
  unfold rdP at q
  split at q
  · rename_i p e
    exact ⟨p.1, p.2, e, q.1, q.2⟩
  · exact q.elim
theorem dop_P {f : Value → Value → Sem Value} {g : Sto → D → D → PR} (h : ∀ (pins : List (Addr × Obj)) (s : Shared) (σ : L2.St) (H : Hp) (vx vy : V) (v u : Value) (Q : VK) (S : Sto) (x y : D) (c : Prop) (d : D),
    Inv X pins σ H s → RelV vx v → RelV vy u → RepS X.K S H → RepD X.K S H x vx → RepD X.K S H y vy → g S x y = some (c, d) → c → up X.K S H Q d S → wpAny (model X.prog X.w) X.A (f v u) (EP X pins σ Q) X.xe s) : DOp X f (rdP g) where
  mono := rdP_mono
  run := fun pins s σ H vx vy v u Q I rx ry ⟨S, x, y, hs, r1, r2, q⟩ => by
    obtain ⟨c, d, e, hc, q⟩ := rdP_some q
    exact h pins s σ H vx vy v u Q S x y c d I rx ry hs r1 r2 e hc q

/-! ### + - * // % ** -/
def intD (C : Int → Int → Prop) (g : Int → Int → D) : Sto → D → D → PR := fun _ x y => match x, y with
  | .int i, .int j => some (C i j, g i j)
  | _, _ => none
theorem dop_I {f : Value → Value → Sem Value} {C C' : Int → Int → Prop} {g : Int → Int → Int} {g' : Int → Int → Int} (h : OpR X f (rI C' fun i j => .int (g' i j))) (hc : ∀ i j, C i j → C' i j ∧ g i j = g' i j) : DOp X f (rdP (intD C fun i j => .int (g i j))) :=
  dop_P fun pins s σ H vx vy v u Q S x y c d I rx ry hs r1 r2 e hC q => by
    unfold intD at e
    split at e
    · cases e
      cases r1; cases r2
      rename_i i j
      obtain ⟨c, e⟩ := hc i j hC
      refine h pins s σ H _ _ v u Q I rx ry ⟨i, j, rfl, rfl, c, q _ _ ?_ hs Ext.refl⟩
      show RepD _ _ _ (.int (g i j)) (.int (g' i j))
      rw [e]
      exact .int _
    · cases e
theorem opI0' {f : Value → Value → Sem Value} {g : Int → Int → Int} (h : OpR X f (rI0 fun i j => .int (g i j))) : OpR X f (rI (fun _ _ => True) fun i j => .int (g i j)) :=
  fun pins s σ H vx vy v u Q I rx ry ⟨i, j, a, b, _, q⟩ => h pins s σ H vx vy v u Q I rx ry ⟨i, j, a, b, q⟩
theorem dop_sub : DOp X (binaryOp .Sub) (rdP (intD (fun _ _ => True) fun i j => .int (i - j))) := dop_I (opI0' op_sub) fun _ _ h => ⟨h, rfl⟩
def CFd (_ j : Int) : Prop := (j ≠ 0 ∧ j.natAbs < 1073741824) ∨ (j ≠ 0 ∧ j.natAbs.log2 < 9000)
theorem op_fdivG : OpR X (binaryOp .FloorDiv) (rI (fun _ j => j ≠ 0 ∧ j.natAbs.log2 < 9000) fun i j => .int (i.fdiv j)) := opI fun i j _ _ _ _ _ hc q => floordiv_int hc.1 q (.inl (PyProof.noPylong_of_log2 hc.2))
theorem dop_fdiv : DOp X (binaryOp .FloorDiv) (rdP (intD CFd fun i j => .int (i.fdiv j))) :=
  dop_P fun pins s σ H vx vy v u Q S x y c d I rx ry hs r1 r2 e hC q => by
    unfold intD at e
    split at e
    · cases e
      cases r1; cases r2
      rename_i i j
      rcases hC with c | c
      · exact op_fdivN pins s σ H _ _ v u Q I rx ry ⟨_, _, rfl, rfl, c, q _ _ (.int _) hs Ext.refl⟩
      · exact op_fdivG pins s σ H _ _ v u Q I rx ry ⟨_, _, rfl, rfl, c, q _ _ (.int _) hs Ext.refl⟩
    · cases e
theorem dop_mod : DOp X (binaryOp .Mod) (rdP (intD (fun _ j => j ≠ 0) fun i j => .int (i.fmod j))) := dop_I op_modN fun _ _ h => ⟨h, rfl⟩
theorem dop_pow : DOp X (binaryOp .Pow) (rdP (intD CPow fun i j => .int (i ^ j.toNat))) := dop_I op_pow fun _ _ h => ⟨h, rfl⟩

def addD : Sto → D → D → PR := fun S x y => match x, y with
  | .int i, .int j => some (True, .int (i + j))
  | .str a, .str b => some (a.length + b.length ≤ sizeLine, .str (a ++ b))
  | .tup xs, .tup ys => some (xs.length + ys.length ≤ sizeLine, .tup (xs ++ ys))
  | x, y => match getL S x, getL S y with
    | some xs, some ys => some (xs.length + ys.length ≤ sizeLine, .lst (xs ++ ys))
    | _, _ => none
theorem dop_add : DOp X (binaryOp .Add) (rdP addD) :=
  dop_P fun pins s σ H vx vy v u Q S x y c d I rx ry hs r1 r2 e hC q => by
    unfold addD at e
    split at e
    · cases e; cases r1; cases r2
      exact op_add pins s σ H _ _ v u Q I rx ry ⟨_, _, rfl, rfl, q _ _ (.int _) hs Ext.refl⟩
    · cases e; cases r1; cases r2
      exact op_add_str pins s σ H _ _ v u Q I rx ry ⟨_, _, rfl, rfl, hC, q _ _ (.str _) hs Ext.refl⟩
    · cases e
      cases r1 with
      | tup h1 q1 =>
        cases r2 with
        | tup h2 q2 =>
          refine op_catA pins s σ H _ _ v u Q I rx ry ⟨_, _, _, _, rfl, rfl, h1.sq, h2.sq, by rw [← q1.len, ← q2.len]; exact hC, fun e => ?_, fun _ e => ?_, fun _ _ p n => ?_⟩
          · subst e; cases q1
            exact q _ _ (.tup h2 q2) hs Ext.refl
          · subst e; cases q2
            rw [List.append_nil] at q
            exact q _ _ (.tup h1 q1) hs Ext.refl
          · exact q _ _ (rep_newT (q1.append q2) hs n) (hs.new n) (Ext.new n)
    · split at e
      · cases e
        rename_i e1 e2
        obtain ⟨a, vs, rfl, ha, q1⟩ := getL_rep hs r1 e1
        obtain ⟨b, us, rfl, hb, q2⟩ := getL_rep hs r2 e2
        exact op_cat pins s σ H _ _ v u Q I rx ry ⟨_, _, _, _, rfl, rfl, ha, hb, by rw [← q1.len, ← q2.len]; exact hC, fun p n => q _ _ (rep_newL (q1.append q2) hs n) (hs.new n) (Ext.new n)⟩
      · cases e
/-- list + list, a list that will be changed -/
def rdAddR : D → D → Sto → QD → Prop := fun x y S Q => match getL S x, getL S y with
    | some xs, some ys => xs.length + ys.length ≤ sizeLine ∧ ∀ p, S p = none → Q (.ref p) (sup S p (.lst (xs ++ ys)))
    | _, _ => False
theorem dop_addR : DOp X (binaryOp .Add) rdAddR where
  mono := fun x y S Q Q' h q => by
    unfold rdAddR at q ⊢
    split at q
    · rename_i e1 e2
      exact ⟨q.1, fun p n => h _ _ (q.2 p n)⟩
    · exact q.elim
  run := fun pins s σ H vx vy v u Q I rx ry ⟨S, x, y, hs, r1, r2, q⟩ => by
    unfold rdAddR at q
    split at q
    · rename_i e1 e2
      obtain ⟨a, vs, rfl, ha, q1⟩ := getL_rep hs r1 e1
      obtain ⟨b, us, rfl, hb, q2⟩ := getL_rep hs r2 e2
      exact op_cat pins s σ H _ _ v u Q I rx ry ⟨_, _, _, _, rfl, rfl, ha, hb, by rw [← q1.len, ← q2.len]; exact q.1, fun p n => q.2 p (hs.free n) _ _ (.ref p) (hs.newS n (.lst (q1.append q2))) (Ext.newS n)⟩
    · exact q.elim

theorem RepDs.rep {K : PySem.W.Frag} {S : Sto} {H : Hp} {ds : List D} {vs : List V} (r : RepDs K S H ds vs) : ∀ n : Nat, RepDs K S H (List.replicate n ds).flatten (List.replicate n vs).flatten
  | 0 => .nil
  | n + 1 => by
    rw [List.replicate_succ, List.replicate_succ, List.flatten_cons, List.flatten_cons]
    exact r.append (RepDs.rep r n)
def mulD : Sto → D → D → PR := fun _ x y => match x, y with
  | .int i, .int j => some (i.natAbs.log2 + j.natAbs.log2 < 1000000, .int (i * j))
  | .lst xs, .int k => some (-(2 ^ 63) ≤ k ∧ k < 2 ^ 63 ∧ xs.length * k.toNat ≤ sizeLine, .lst (List.replicate k.toNat xs).flatten)
  | .tup xs, .int k => some (xs ≠ [] ∧ 2 ≤ k ∧ k ≤ 1000 ∧ xs.length ≤ 1000, .tup (List.replicate k.toNat xs).flatten)
  | _, _ => none
theorem dop_mul : DOp X (binaryOp .Mult) (rdP mulD) :=
  dop_P fun pins s σ H vx vy v u Q S x y c d I rx ry hs r1 r2 e hC q => by
    unfold mulD at e
    split at e
    · cases e; cases r1; cases r2
      exact op_mulW pins s σ H _ _ v u Q I rx ry ⟨_, _, rfl, rfl, hC, q _ _ (.int _) hs Ext.refl⟩
    · cases e; cases r2
      cases r1 with
      | lst n h r =>
        exact op_rep pins s σ H _ _ v u Q I rx ry ⟨_, _, _, rfl, rfl, h, hC.1, hC.2.1, by rw [← r.len]; exact hC.2.2, fun p n => q _ _ (rep_newL (r.rep _) hs n) (hs.new n) (Ext.new n)⟩
    · cases e; cases r2
      cases r1 with
      | tup h r =>
        exact op_repT pins s σ H _ _ v u Q I rx ry ⟨_, _, _, rfl, rfl, h.sq, (fun e => by subst e; cases r; exact hC.1 rfl), hC.2.1, hC.2.2.1, by rw [← r.len]; exact hC.2.2.2, fun p n => q _ _ (rep_newT (r.rep _) hs n) (hs.new n) (Ext.new n)⟩
    · cases e

/-! ### comparisons -/
def slt (a b : Str) : Bool := decide (a.cps.toList < b.cps.toList)
def ordD (gi : Int → Int → Bool) (gs : Str → Str → Bool) : Sto → D → D → PR := fun _ x y => match x, y with
  | .int i, .int j => some (True, .bl (gi i j))
  | .str a, .str b => some (True, .bl (gs a b))
  | _, _ => none
theorem dop_ord {op : CmpOp} {gi : Int → Int → Bool} {gs : Str → Str → Bool} (h1 : OpR X (compareOp op) (rI0 fun i j => .bl (gi i j))) (h2 : OpR X (compareOp op) (fun x y H Q => ∃ i j, x = .str i ∧ y = .str j ∧ Q (.bl (gs i j)) H)) : DOp X (compareOp op) (rdP (ordD gi gs)) :=
  dop_P fun pins s σ H vx vy v u Q S x y c d I rx ry hs r1 r2 e hC q => by
    unfold ordD at e
    split at e
    · cases e; cases r1; cases r2
      exact h1 pins s σ H _ _ v u Q I rx ry ⟨_, _, rfl, rfl, q _ _ (.bl _) hs Ext.refl⟩
    · cases e; cases r1; cases r2
      exact h2 pins s σ H _ _ v u Q I rx ry ⟨_, _, rfl, rfl, q _ _ (.bl _) hs Ext.refl⟩
    · cases e
theorem dop_lt : DOp X (compareOp .Lt) (rdP (ordD (fun i j => decide (i < j)) slt)) := dop_ord op_lt op_lt_str
theorem dop_le : DOp X (compareOp .LtE) (rdP (ordD (fun i j => decide (i ≤ j)) fun a b => !slt b a)) := dop_ord op_le op_le_str
theorem dop_gt : DOp X (compareOp .Gt) (rdP (ordD (fun i j => decide (j < i)) fun a b => slt b a)) := dop_ord op_gt op_gt_str
theorem dop_ge : DOp X (compareOp .GtE) (rdP (ordD (fun i j => decide (j ≤ i)) fun a b => !slt a b)) := dop_ord op_ge op_ge_str

/-- data that can be compared -/
def okD (d : D) : Bool := isDt d && SeqAt.shaped (pyd d)
def eqD (x y : D) : Bool := PyData.eqv (pyd x) (pyd y)
def eqR (neg : Bool) : Sto → D → D → PR := fun S x y => some (okD (res S x) = true ∧ okD (res S y) = true, .bl (if neg then !eqD (res S x) (res S y) else eqD (res S x) (res S y)))
theorem dop_eq (hu : X.A.units + 200 < cLine) : DOp X (compareOp .Eq) (rdP (eqR false)) :=
  dop_P fun pins s σ H vx vy v u Q S x y c d I rx ry hs r1 r2 e hC q => by
    cases e
    have a1 := Bool.and_eq_true_iff.mp hC.1
    have a2 := Bool.and_eq_true_iff.mp hC.2
    exact op_eqD (by omega) pins s σ H _ _ v u Q I rx ry ⟨_, _, res_dp hs r1 a1.1, res_dp hs r2 a2.1, a1.2, a2.2, q _ _ (.bl _) hs Ext.refl⟩
theorem dop_ne (hu : X.A.units + 200 < cLine) : DOp X (compareOp .NotEq) (rdP (eqR true)) :=
  dop_P fun pins s σ H vx vy v u Q S x y c d I rx ry hs r1 r2 e hC q => by
    cases e
    have a1 := Bool.and_eq_true_iff.mp hC.1
    have a2 := Bool.and_eq_true_iff.mp hC.2
    exact op_neD (by omega) pins s σ H _ _ v u Q I rx ry ⟨_, _, res_dp hs r1 a1.1, res_dp hs r2 a2.1, a1.2, a2.2, q _ _ (.bl _) hs Ext.refl⟩
def isNon : D → Bool
  | .non => true
  | _ => false
def isNR (neg : Bool) : Sto → D → D → PR := fun _ x y => match y with
  | .non => some (True, .bl (if neg then !isNon x else isNon x))
  | .bl b => match x with
    | .bl a => some (True, .bl (if neg then !decide (a = b) else decide (a = b)))
    | _ => none
  | _ => none
theorem isNon_rep {K : PySem.W.Frag} {S : Sto} {H : Hp} {d : D} {v : V} (r : RepD K S H d v) : decide (v = .non) = isNon d := by
  cases r <;> simp [isNon]
theorem dop_isN : DOp X (compareOp .Is) (rdP (isNR false)) :=
  dop_P fun pins s σ H vx vy v u Q S x y c d I rx ry hs r1 r2 e hC q => by
    unfold isNR at e
    split at e
    · cases e; cases r2
      refine op_isN pins s σ H _ _ v u Q I rx ry ⟨rfl, ?_⟩
      rw [isNon_rep r1]
      exact q _ _ (.bl _) hs Ext.refl
    · split at e
      · cases e; cases r1; cases r2
        exact op_is_bl pins s σ H _ _ v u Q I rx ry ⟨_, _, rfl, rfl, q _ _ (.bl _) hs Ext.refl⟩
      · cases e
    · cases e
theorem dop_isntN : DOp X (compareOp .IsNot) (rdP (isNR true)) :=
  dop_P fun pins s σ H vx vy v u Q S x y c d I rx ry hs r1 r2 e hC q => by
    unfold isNR at e
    split at e
    · cases e; cases r2
      refine op_notN pins s σ H _ _ v u Q I rx ry ⟨rfl, ?_⟩
      rw [isNon_rep r1]
      exact q _ _ (.bl _) hs Ext.refl
    · split at e
      · cases e; cases r1; cases r2
        exact op_isnot_bl pins s σ H _ _ v u Q I rx ry ⟨_, _, rfl, rfl, q _ _ (.bl _) hs Ext.refl⟩
      · cases e
    · cases e

/-! ### in -/
def flD : D → Bool
  | .non => true
  | .bl _ => true
  | .int _ => true
  | .str _ => true
  | _ => false
def inD (x : D) (xs : List D) : Bool := xs.any fun y => eqD y x
theorem flat_rep {K : PySem.W.Frag} {S : Sto} {H : Hp} {d : D} {v : V} (r : RepD K S H d v) (f : flD d = true) : flatV v = true := by
  cases r <;> first | rfl | (simp [flD] at f)
theorem flats_rep {K : PySem.W.Frag} {S : Sto} {H : Hp} : ∀ {ds : List D} {vs : List V}, RepDs K S H ds vs → ds.all flD = true → vs.all flatV = true
  | _, _, .nil, _ => rfl
  | _, _, .cons h r, f => by
    rw [List.all_cons, Bool.and_eq_true_iff] at f
    rw [List.all_cons, flat_rep h f.1, flats_rep r f.2]
    rfl
theorem eqV_rep {K : PySem.W.Frag} {S : Sto} {H : Hp} {d e : D} {v u : V} (r : RepD K S H d v) (q : RepD K S H e u) (fd : flD d = true) (fe : flD e = true) : eqV v u = eqD d e := by
  cases r <;> first | (simp [flD] at fd; done) | (cases q <;> first | (simp [flD] at fe; done) | (unfold eqD; simp [eqV, pyd, PyData.eqv]))
theorem inV_rep {K : PySem.W.Frag} {S : Sto} {H : Hp} {d : D} {v : V} (r : RepD K S H d v) (fd : flD d = true) : ∀ {ds : List D} {vs : List V}, RepDs K S H ds vs → ds.all flD = true → inV v vs = inD d ds
  | _, _, .nil, _ => rfl
  | _, _, .cons h t, f => by
    rw [List.all_cons, Bool.and_eq_true_iff] at f
    have ih := inV_rep r fd t f.2
    unfold inV inD at ih ⊢
    rw [List.any_cons, List.any_cons, ih, eqV_rep h r f.1 fd]
def inR (neg : Bool) : Sto → D → D → PR := fun S x y => match x, y with
  | .str ⟨⟨[c]⟩⟩, .str z => some (True, .bl (if neg then !decide (c ∈ z.cps.toList) else decide (c ∈ z.cps.toList)))
  | x, .tup ds => some (flD x = true ∧ ds.all flD = true, .bl (if neg then !inD x ds else inD x ds))
  | x, y => match getL S y with
    | some ds => some (okD x = true ∧ okD (.lst ds) = true, .bl (if neg then !inD x ds else inD x ds))
    | none => none
theorem any_pyds (x : D) : ∀ ds : List D, ((pyds ds).any fun z => PyData.eqv z (pyd x)) = inD x ds
  | [] => rfl
  | d :: r => by
    unfold pyds
    have ih := any_pyds x r
    unfold inD eqD at ih ⊢
    rw [List.any_cons, List.any_cons, ih]
theorem dop_inG {op : CmpOp} {neg : Bool} (h1 : OpR X (compareOp op) (fun x y H Q => ∃ (c : Nat) (z : Str), x = .str ⟨#[c]⟩ ∧ y = .str z ∧ Q (.bl (if neg then !decide (c ∈ z.cps.toList) else decide (c ∈ z.cps.toList))) H))
    (h2 : OpR X (compareOp op) (rIn X.K neg)) (h3 : OpR X (compareOp op) fun x y H Q => ∃ d ds, Dp X.K H x d ∧ Dp X.K H y (.list ds) ∧ SeqAt.shaped d = true ∧ SeqAt.shaped (.list ds) = true ∧ Q (.bl (if neg then !ds.any fun z => PyData.eqv z d else ds.any fun z => PyData.eqv z d)) H) :
    DOp X (compareOp op) (rdP (inR neg)) :=
  dop_P fun pins s σ H vx vy v u Q S x y c d I rx ry hs r1 r2 e hC q => by
    unfold inR at e
    split at e
    · cases e; cases r1; cases r2
      exact h1 pins s σ H _ _ v u Q I rx ry ⟨_, _, rfl, rfl, q _ _ (.bl _) hs Ext.refl⟩
    · cases e
      cases r2 with
      | tup h r =>
        refine h2 pins s σ H _ _ v u Q I rx ry ⟨_, _, rfl, .inr h.sq, flat_rep r1 hC.1, flats_rep r hC.2, ?_⟩
        rw [inV_rep r1 hC.1 r hC.2]
        exact q _ _ (.bl _) hs Ext.refl
    · split at e
      · rename_i ds e1
        cases e
        obtain ⟨a, vs, rfl, ha, r⟩ := getL_rep hs r2 e1
        have a1 := Bool.and_eq_true_iff.mp hC.1
        have a2 := Bool.and_eq_true_iff.mp hC.2
        have hd : isDts ds = true := by have := a2.1; unfold isDt at this; exact this
        refine h3 pins s σ H _ _ v u Q I rx ry ⟨_, pyds ds, dp_of a1.1 r1, .lst (.inl (.inl ha)) (dps_of hd r), a1.2, by have := a2.2; unfold pyd at this; exact this, ?_⟩
        rw [any_pyds]
        exact q _ _ (.bl _) hs Ext.refl
      · cases e
theorem dop_in (hu : X.A.units + 200 < cLine) : DOp X (compareOp .In) (rdP (inR false)) :=
  dop_inG (neg := false) op_in_sign op_in_seq (op_inD (by omega))
theorem dop_notIn (hu : X.A.units + 200 < cLine) : DOp X (compareOp .NotIn) (rdP (inR true)) :=
  dop_inG (neg := true) op_notIn_sign op_notIn_seq (op_notInD (by omega))
end
end PL

namespace PL
open PySem PySem.Spec PyProof.Rows L2

section
variable {X : Cx} {pos : Pos} {a b e o : Expr} {es : List Expr} {ta tb te to : TED} {t : TAD}

/-! ### items -/
def ixD : Sto → D → D → PR := fun S x y => match y with
  | .int i => match getQ S x with
    | some ds => match atI ds i with
      | some d => some (True, d)
      | none => none
    | none => match x with
      | .str z => match atI z.cps.toList i with
        | some c => some (z.length ≤ sizeLine, .str ⟨#[c]⟩)
        | none => none
      | _ => none
  | _ => none
theorem RepDs.atI {K : PySem.W.Frag} {S : Sto} {H : Hp} {ds : List D} {vs : List V} {i : Int} {d : D} (r : RepDs K S H ds vs) (e : atI ds i = some d) : ∃ v, atI vs i = some v ∧ RepD K S H d v := by
  unfold L2.atI at e ⊢
  rw [← r.len]
  cases q : ixN ds.length i with
  | none => rw [q] at e; cases e
  | some j =>
    rw [q] at e
    exact r.get e
theorem dix : IxR X (fun vx vy H Q => ∃ S x y, RepS X.K S H ∧ RepD X.K S H x vx ∧ RepD X.K S H y vy ∧ rdP ixD x y S (up X.K S H Q)) := by
  intro value slice pins s σ H vx vy v u Q I rx ry h hsub
  obtain ⟨S, x, y, hs, r1, r2, q⟩ := h
  obtain ⟨c, d, e, hc, q1⟩ := rdP_some q
  unfold ixD at e
  split at e
  · cases r2
    split at e
    · rename_i ds eg
      split at e
      · rename_i d' ea
        cases e
        obtain ⟨p, vs, rfl, hq, r⟩ := getQ_rep hs r1 eg
        obtain ⟨w, ew, rw'⟩ := r.atI ea
        rcases hq with hq | hq
        · exact ix_list value slice pins s σ H _ _ v u Q I rx ry ⟨_, _, _, _, rfl, rfl, hq, ew, q1 _ _ rw' hs Ext.refl⟩ hsub
        · exact ix_tup value slice pins s σ H _ _ v u Q I rx ry ⟨_, _, _, _, rfl, rfl, hq, ew, q1 _ _ rw' hs Ext.refl⟩ hsub
      · cases e
    · split at e
      · split at e
        · rename_i ea
          cases e
          cases r1
          exact ix_str value slice pins s σ H _ _ v u Q I rx ry ⟨_, _, _, rfl, rfl, hc, ea, q1 _ _ (.str _) hs Ext.refl⟩ hsub
        · cases e
      · cases e
  · cases e
theorem de_ix (ha : DE X a ta) (hb : DE X b tb) (hs : PlainIx b) : DE X (.Subscript a b pos) (tdOp (rdP ixD) ta tb) where
  mono := tdOp_mono rdP_mono ha hb
  run := pe_imp (pe_ix dix ha.run hb.run hs) fun σ H Q q => lift2 ha hb rdP_mono (fun _ _ _ _ h => h) q

/-! ### slices -/
def cutD {α : Type} (xs : List α) (lo hi : Option Int) : List α := (xs.drop (HT.sIx xs.length 0 lo)).take (HT.sIx xs.length xs.length hi - HT.sIx xs.length 0 lo)
theorem RepDs.cut {K : PySem.W.Frag} {S : Sto} {H : Hp} {ds : List D} {vs : List V} (r : RepDs K S H ds vs) (lo hi : Option Int) : RepDs K S H (cutD ds lo hi) (cutV vs lo hi) := by
  unfold cutD cutV
  rw [← r.len]
  exact (r.drop _).take _
abbrev TOD := Env' → Sto → (Option Int → Sto → Prop) → Prop
structure DO (X : Cx) (e : Option Expr) (t : TOD) : Prop where
  mono : ∀ env S (Q Q' : Option Int → Sto → Prop), (∀ d s, Q d s → Q' d s) → t env S Q → t env S Q'
  run : PO X e (fun σ H Q => ∃ env S, RepEnv X.K S H env σ ∧ RepS X.K S H ∧ t env S fun o S' => ∀ H', RepS X.K S' H' → Ext S H S' H' → Q o H')
theorem po_imp {e : Option Expr} {t t' : TO} (h : PO X e t) (i : ∀ σ H Q, t' σ H Q → t σ H Q) : PO X e t' := ⟨fun pins s σ H Q I q => h.run pins s σ H Q I (i σ H Q q)⟩
def tdNoPart : TOD := fun _ S Q => Q none S
def tdPart (t : TED) : TOD := fun env S Q => t env S fun d S1 => match d with
  | .int i => Q (some i) S1
  | _ => False
theorem do_none : DO X none tdNoPart where
  mono := fun env S Q Q' h q => h _ _ q
  run := po_imp po_none fun σ H Q ⟨env, S, he, hs, q⟩ => q H hs Ext.refl
theorem do_some (h : DE X e te) : DO X (some e) (tdPart te) where
  mono := fun env S Q Q' hq q => h.mono _ _ _ _ (fun d s q => by
    split at q
    · exact hq _ _ q
    · exact q.elim) q
  run := po_imp (po_some h.run) fun σ H Q ⟨env, S, he, hs, q⟩ => ⟨env, S, he, hs, h.mono _ _ _ _ (fun d S1 q v H1 r1 s1 e1 => by
    split at q
    · cases r1; exact ⟨_, rfl, q H1 s1 e1⟩
    · exact q.elim) q⟩
def slD (lo hi : Option Int) : Sto → D → PR := fun S x => match x with
  | .tup ds => some (True, .tup (cutD ds lo hi))
  | .scr ds => some (True, .lst (cutD ds lo hi))
  | .str z => some (z.length ≤ sizeLine, .str (cutS z lo hi))
  | x => match getL S x with
    | some ds => some (True, .lst (cutD ds lo hi))
    | none => none
def onP (o : PR) (S : Sto) (Q : QD) : Prop := match o with
  | some p => p.1 ∧ Q p.2 S
  | none => False
theorem onP_mono {o : PR} {S : Sto} {Q Q' : QD} (h : ∀ d s, Q d s → Q' d s) (q : onP o S Q) : onP o S Q' := by
  unfold onP at q ⊢
  split at q
  · exact ⟨q.1, h _ _ q.2⟩
  · exact q.elim
def tdSl (te : TED) (tl th : TOD) : TED := fun env S Q => te env S fun x S1 => tl env S1 fun lo S2 => th env S2 fun hi S3 => onP (slD lo hi S3 x) S3 Q
theorem cut_whole {α : Type} {xs : List α} {lo hi : Option Int} (h : HT.sIx xs.length 0 lo = 0 ∧ HT.sIx xs.length xs.length hi = xs.length) : cutD xs lo hi = xs := by
  unfold cutD
  rw [h.1, h.2]
  simp
theorem dsl : SlR X (fun vx lo hi H Q => ∃ S x, RepS X.K S H ∧ RepD X.K S H x vx ∧ onP (slD lo hi S x) S (up X.K S H Q)) := by
  intro pins s σ H vx v vl vu lo hi sl Q I rx hsl pl pu h
  obtain ⟨S, x, hs, r1, q⟩ := h
  unfold onP at q
  split at q
  · rename_i p e
    obtain ⟨hc, q⟩ := q
    unfold slD at e
    split at e
    · cases e
      cases r1 with
      | tup h r =>
        refine sl_tupA pins s σ H _ v vl vu lo hi sl Q I rx hsl pl pu ⟨_, _, rfl, h.sq, fun hw => ?_, fun hw p n => q _ _ (rep_newT (r.cut lo hi) hs n) (hs.new n) (Ext.new n)⟩
        rw [← r.len] at hw
        have q2 : up X.K S H Q (.tup (cutD _ lo hi)) S := q
        rw [cut_whole hw] at q2
        exact q2 _ _ (.tup h r) hs Ext.refl
    · cases e
      cases r1 with
      | scr h r => exact sl_list pins s σ H _ v vl vu lo hi sl Q I rx hsl pl pu ⟨_, _, rfl, h.sq, fun p n => q _ _ (rep_newL (r.cut lo hi) hs n) (hs.new n) (Ext.new n)⟩
    · cases e
      cases r1
      exact sl_str pins s σ H _ v vl vu lo hi sl Q I rx hsl pl pu ⟨_, rfl, hc, q _ _ (.str _) hs Ext.refl⟩
    · split at e
      · rename_i ds eg
        cases e
        obtain ⟨p, vs, rfl, hq, r⟩ := getL_rep hs r1 eg
        exact sl_list pins s σ H _ v vl vu lo hi sl Q I rx hsl pl pu ⟨_, _, rfl, .inl (.inl hq), fun p n => q _ _ (rep_newL (r.cut lo hi) hs n) (hs.new n) (Ext.new n)⟩
      · cases e
  · exact q.elim
theorem de_slice {lo hi : Option Expr} {tl th : TOD} {p2 : Pos} (he : DE X e te) (hl : DO X lo tl) (hh : DO X hi th) : DE X (.Subscript e (.Slice lo hi none p2) pos) (tdSl te tl th) where
  mono := fun env S Q Q' h q => he.mono _ _ _ _ (fun x s q => hl.mono _ _ _ _ (fun l s q => hh.mono _ _ _ _ (fun u s q => onP_mono h q) q) q) q
  run := pe_imp (pe_slice dsl he.run hl.run hh.run) fun σ H Q ⟨env, S, hev, hs, q⟩ => ⟨env, S, hev, hs, he.mono _ _ _ _ (fun x S1 q1 v1 H1 r1 s1 e1 =>
    ⟨env, S1, hev.ext e1, s1, hl.mono _ _ _ _ (fun l S2 q2 H2 s2 e2 => ⟨env, S2, hev.ext (e1.trans e2), s2, hh.mono _ _ _ _ (fun u S3 q3 H3 s3 e3 =>
      ⟨S3, x, s3, r1.ext (e2.trans e3), onP_mono (fun d s h => up_ext ((e1.trans e2).trans e3) h) q3⟩) q2⟩) q1⟩) q⟩

/-! ### calls of what is built in -/
structure DCal (X : Cx) (f : Value) (rd : List D → Sto → QD → Prop) : Prop where
  mono : ∀ ds S (Q Q' : QD), (∀ d s, Q d s → Q' d s) → rd ds S Q → rd ds S Q'
  run : CallR X f fun vs H Q => ∃ S ds, RepS X.K S H ∧ RepDs X.K S H ds vs ∧ rd ds S (up X.K S H Q)
def tdCB (rd : List D → Sto → QD → Prop) (t : TAD) : TED := fun env S Q => t env S fun ds S1 => rd ds S1 Q
theorem tdCB_mono {rd : List D → Sto → QD → Prop} (hm : ∀ ds S (Q Q' : QD), (∀ d s, Q d s → Q' d s) → rd ds S Q → rd ds S Q') (ha : DA X es t) : ∀ env S (Q Q' : QD), (∀ d s, Q d s → Q' d s) → tdCB rd t env S Q → tdCB rd t env S Q' :=
  fun env S Q Q' h q => ha.mono _ _ _ _ (fun ds s q => hm ds s Q Q' h q) q
theorem liftCB {rd : List D → Sto → QD → Prop} (hm : ∀ ds S (Q Q' : QD), (∀ d s, Q d s → Q' d s) → rd ds S Q → rd ds S Q') (ha : DA X es t) {σ : L2.St} {H : Hp} {Q : VK} (q : liftE X.K (tdCB rd t) σ H Q) :
    tCB (fun vs H Q => ∃ S ds, RepS X.K S H ∧ RepDs X.K S H ds vs ∧ rd ds S (up X.K S H Q)) (liftA X.K t) σ H Q := by
  obtain ⟨env, S, he, hs, q⟩ := q
  exact ⟨env, S, he, hs, ha.mono _ _ _ _ (fun ds S1 q1 vs H1 r1 s1 e1 => ⟨S1, ds, s1, r1, hm ds S1 _ _ (fun d s h => up_ext e1 h) q1⟩) q⟩
theorem de_callB {id : String} {x : Str} {p : Pos} {rd : List D → Sto → QD → Prop} (hc : DCal X (.builtin id) rd) (hg : Gl X x) (hm : X.mg x = none) (hv : bootBuiltins x = some (.builtin id)) (ha : DA X (e :: es) t) (hn : x ≠ "__name__" := by decide) (hdb : (x == ("__debug__" : Str)) = false := by decide)
    (he : starEach (e :: es) X.env = (false, eval e X.env) :: starEach es X.env := by rfl) (hpl : (backTo pos (starEach es X.env)).any (·.1) = false := by rfl) : DE X (.Call (.Name x p) (e :: es) [] pos) (tdCB rd t) where
  mono := tdCB_mono hc.mono ha
  run := pe_imp (pe_callB hc.run hg hm hv ha.run hn hdb he hpl) fun σ H Q q => liftCB hc.mono ha q
theorem de_callTy {T : String} {x : Str} {p : Pos} {rd : List D → Sto → QD → Prop} (hc : DCal X (.type T) rd) (hg : Gl X x) (hm : X.mg x = none) (hv : bootBuiltins x = some (.type T)) (ha : DA X (e :: es) t) (hn : x ≠ "__name__" := by decide) (hdb : (x == ("__debug__" : Str)) = false := by decide)
    (he : starEach (e :: es) X.env = (false, eval e X.env) :: starEach es X.env := by rfl) (hpl : (backTo pos (starEach es X.env)).any (·.1) = false := by rfl) : DE X (.Call (.Name x p) (e :: es) [] pos) (tdCB rd t) where
  mono := tdCB_mono hc.mono ha
  run := pe_imp (pe_callTy hc.run hg hm hv ha.run hn hdb he hpl) fun σ H Q q => liftCB hc.mono ha q
def rdC (f : Sto → List D → PR) : List D → Sto → QD → Prop := fun ds S Q => match f S ds with
  | some p => p.1 ∧ Q p.2 S
  | none => False
theorem rdC_mono {f : Sto → List D → PR} : ∀ ds S (Q Q' : QD), (∀ d s, Q d s → Q' d s) → rdC f ds S Q → rdC f ds S Q' := fun ds S Q Q' h q => by
  unfold rdC at q ⊢
  split at q
  · exact ⟨q.1, h _ _ q.2⟩
  · exact q.elim
theorem dcal_P {f : Value} {g : Sto → List D → PR} (h : ∀ (pins : List (Addr × Obj)) (s : Shared) (σ : L2.St) (H : Hp) (vs : List V) (us : List Value) (Q : VK) (S : Sto) (ds : List D) (c : Prop) (d : D),
    Inv X pins σ H s → Vals vs us → RepS X.K S H → RepDs X.K S H ds vs → g S ds = some (c, d) → c → up X.K S H Q d S → wpAny (model X.prog X.w) X.A (call f us) (EP X pins σ Q) X.xe s) : DCal X f (rdC g) where
  mono := rdC_mono
  run := fun pins s σ H vs us Q I rv ⟨S, ds, hs, r, q⟩ => by
    unfold rdC at q
    split at q
    · rename_i p e
      exact h pins s σ H vs us Q S ds p.1 p.2 I rv hs r e q.1 q.2
    · exact q.elim
def lenD : Sto → List D → PR := fun S ds => match ds with
  | [x] => match getQ S x with
    | some xs => some (True, .int xs.length)
    | none => match x with
      | .str z => some (z.length ≤ sizeLine, .int z.length)
      | _ => none
  | _ => none
theorem RepDs.one_inv {K : PySem.W.Frag} {S : Sto} {H : Hp} {d : D} {vs : List V} (r : RepDs K S H [d] vs) : ∃ v, vs = [v] ∧ RepD K S H d v := by
  cases r with
  | cons h t => cases t; exact ⟨_, rfl, h⟩
theorem RepDs.two_inv {K : PySem.W.Frag} {S : Sto} {H : Hp} {d e : D} {vs : List V} (r : RepDs K S H [d, e] vs) : ∃ v u, vs = [v, u] ∧ RepD K S H d v ∧ RepD K S H e u := by
  cases r with
  | cons h t =>
    obtain ⟨u, rfl, h2⟩ := t.one_inv
    exact ⟨_, _, rfl, h, h2⟩
theorem dcal_len : DCal X (.builtin "len") (rdC lenD) := dcal_P fun pins s σ H vs us Q S ds c d I rv hs r e hC q => by
  unfold lenD at e
  split at e
  · obtain ⟨v, rfl, r1⟩ := r.one_inv
    split at e
    · rename_i xs eg
      cases e
      obtain ⟨p, ws, rfl, hq, r2⟩ := getQ_rep hs r1 eg
      refine call_len_seq pins s σ H _ us Q I rv ⟨_, _, rfl, hq, ?_⟩
      rw [← r2.len]
      exact q _ _ (.int _) hs Ext.refl
    · split at e
      · cases e; cases r1
        exact call_len_str pins s σ H _ us Q I rv ⟨_, rfl, hC, q _ _ (.int _) hs Ext.refl⟩
      · cases e
  · cases e
def asB : List D → Option (List Bool)
  | [] => some []
  | .bl b :: r => (asB r).map (b :: ·)
  | _ :: _ => none
def asI : List D → Option (List Int)
  | [] => some []
  | .int i :: r => (asI r).map (i :: ·)
  | _ :: _ => none
theorem asB_rep {K : PySem.W.Frag} {S : Sto} {H : Hp} : ∀ {ds : List D} {vs : List V} {bs : List Bool}, RepDs K S H ds vs → asB ds = some bs → vs = bs.map V.bl
  | _, _, _, .nil, e => by cases e; rfl
  | _, _, _, .cons h t, e => by
    unfold asB at e
    split at e
    · rename_i q; cases q
    · rename_i q; cases q
      rw [Option.map_eq_some_iff] at e
      obtain ⟨bs, e1, rfl⟩ := e
      cases h
      rw [asB_rep t e1]; rfl
    · cases e
theorem asI_rep {K : PySem.W.Frag} {S : Sto} {H : Hp} : ∀ {ds : List D} {vs : List V} {bs : List Int}, RepDs K S H ds vs → asI ds = some bs → vs = bs.map V.int
  | _, _, _, .nil, e => by cases e; rfl
  | _, _, _, .cons h t, e => by
    unfold asI at e
    split at e
    · rename_i q; cases q
    · rename_i q; cases q
      rw [Option.map_eq_some_iff] at e
      obtain ⟨bs, e1, rfl⟩ := e
      cases h
      rw [asI_rep t e1]; rfl
    · cases e
def qntD (g : List Bool → Bool) : Sto → List D → PR := fun S ds => match ds with
  | [x] => match (getL S x).bind asB with
    | some bs => some (True, .bl (g bs))
    | none => none
  | _ => none
theorem dcal_all (hc : X.calm = true) : DCal X (.builtin "all") (rdC (qntD fun bs => bs.all id)) := dcal_P fun pins s σ H vs us Q S ds c d I rv hs r e hC q => by
  unfold qntD at e
  split at e
  · obtain ⟨v, rfl, r1⟩ := r.one_inv
    split at e
    · rename_i bs eb
      cases e
      rw [Option.bind_eq_some_iff] at eb
      obtain ⟨xs, e1, e2⟩ := eb
      obtain ⟨p, ws, rfl, hq, r2⟩ := getL_rep hs r1 e1
      obtain rfl := asB_rep r2 e2
      exact cr_all hc pins s σ H _ us Q I rv ⟨_, _, rfl, .inl (.inl hq), q _ _ (.bl _) hs Ext.refl⟩
    · cases e
  · cases e
theorem dcal_any (hc : X.calm = true) : DCal X (.builtin "any") (rdC (qntD fun bs => bs.any id)) := dcal_P fun pins s σ H vs us Q S ds c d I rv hs r e hC q => by
  unfold qntD at e
  split at e
  · obtain ⟨v, rfl, r1⟩ := r.one_inv
    split at e
    · rename_i bs eb
      cases e
      rw [Option.bind_eq_some_iff] at eb
      obtain ⟨xs, e1, e2⟩ := eb
      obtain ⟨p, ws, rfl, hq, r2⟩ := getL_rep hs r1 e1
      obtain rfl := asB_rep r2 e2
      exact cr_any hc pins s σ H _ us Q I rv ⟨_, _, rfl, .inl (.inl hq), q _ _ (.bl _) hs Ext.refl⟩
    · cases e
  · cases e
def sumD : Sto → List D → PR := fun S ds => match ds with
  | [x] => match (getL S x).bind asI with
    | some ns => some (True, .int ns.sum)
    | none => none
  | _ => none
theorem dcal_sum (hc : X.calm = true) : DCal X (.builtin "sum") (rdC sumD) := dcal_P fun pins s σ H vs us Q S ds c d I rv hs r e hC q => by
  unfold sumD at e
  split at e
  · obtain ⟨v, rfl, r1⟩ := r.one_inv
    split at e
    · rename_i bs eb
      cases e
      rw [Option.bind_eq_some_iff] at eb
      obtain ⟨xs, e1, e2⟩ := eb
      obtain ⟨p, ws, rfl, hq, r2⟩ := getL_rep hs r1 e1
      obtain rfl := asI_rep r2 e2
      exact cr_sum hc pins s σ H _ us Q I rv ⟨_, _, rfl, .inl (.inl hq), q _ _ (.int _) hs Ext.refl⟩
    · cases e
  · cases e
def tupleD : Sto → List D → PR := fun S ds => match ds with
  | [.tup xs] => some (True, .tup xs)
  | [x] => match getL S x with
    | some xs => some (True, .tup xs)
    | none => none
  | _ => none
theorem dcal_tuple : DCal X (.type "tuple") (rdC tupleD) := dcal_P fun pins s σ H vs us Q S ds c d I rv hs r e hC q => by
  unfold tupleD at e
  split at e
  · cases e
    obtain ⟨v, rfl, r1⟩ := r.one_inv
    cases r1 with
    | tup h r2 => exact call_tuple_of pins s σ H _ us Q I rv ⟨_, _, rfl, .inr ⟨h.sq, q _ _ (.tup h r2) hs Ext.refl⟩⟩
  · obtain ⟨v, rfl, r1⟩ := r.one_inv
    split at e
    · rename_i xs eg
      cases e
      obtain ⟨p, ws, rfl, hq, r2⟩ := getL_rep hs r1 eg
      exact call_tuple_of pins s σ H _ us Q I rv ⟨_, _, rfl, .inl ⟨.inl (.inl hq), fun l n => q _ _ (rep_newT r2 hs n) (hs.new n) (Ext.new n)⟩⟩
    · cases e
  · cases e
def listD : Sto → List D → PR := fun S ds => match ds with
  | [x] => match getQ S x with
    | some xs => some (True, .lst xs)
    | none => none
  | _ => none
theorem dcal_list : DCal X (.type "list") (rdC listD) := dcal_P fun pins s σ H vs us Q S ds c d I rv hs r e hC q => by
  unfold listD at e
  split at e
  · obtain ⟨v, rfl, r1⟩ := r.one_inv
    split at e
    · rename_i xs eg
      cases e
      obtain ⟨p, ws, rfl, hq, r2⟩ := getQ_rep hs r1 eg
      exact call_list_of pins s σ H _ us Q I rv ⟨_, _, rfl, hq, fun l n => q _ _ (rep_newL r2 hs n) (hs.new n) (Ext.new n)⟩
    · cases e
  · cases e
/-- list(..), a list that will be changed -/
def rdListR : List D → Sto → QD → Prop := fun ds S Q => match ds with
  | [x] => match getQ S x with
    | some xs => ∀ p, S p = none → Q (.ref p) (sup S p (.lst xs))
    | none => False
  | _ => False
theorem dcal_listR : DCal X (.type "list") rdListR where
  mono := fun ds S Q Q' h q => by
    unfold rdListR at q ⊢
    split at q
    · split at q
      · exact fun p n => h _ _ (q p n)
      · exact q.elim
    · exact q.elim
  run := fun pins s σ H vs us Q I rv ⟨S, ds, hs, r, q⟩ => by
    unfold rdListR at q
    split at q
    · obtain ⟨v, rfl, r1⟩ := r.one_inv
      split at q
      · rename_i xs eg
        obtain ⟨p, ws, rfl, hq, r2⟩ := getQ_rep hs r1 eg
        exact call_list_of pins s σ H _ us Q I rv ⟨_, _, rfl, hq, fun l n => q l (hs.free n) _ _ (.ref l) (hs.newS n (.lst r2)) (Ext.newS n)⟩
      · exact q.elim
    · exact q.elim
def intD1 : Sto → List D → PR := fun S ds => match ds with
  | [.int i] => some (True, .int i)
  | [.bl b] => some (True, .int (if b then 1 else 0))
  | _ => none
theorem dcal_int : DCal X (.type "int") (rdC intD1) := dcal_P fun pins s σ H vs us Q S ds c d I rv hs r e hC q => by
  unfold intD1 at e
  split at e
  · cases e
    obtain ⟨v, rfl, r1⟩ := r.one_inv
    cases r1
    exact call_int1 pins s σ H _ us Q I rv (.inl ⟨_, rfl, q _ _ (.int _) hs Ext.refl⟩)
  · cases e
    obtain ⟨v, rfl, r1⟩ := r.one_inv
    cases r1
    exact call_int1 pins s σ H _ us Q I rv (.inr ⟨_, rfl, q _ _ (.int _) hs Ext.refl⟩)
  · cases e
def strD1 : Sto → List D → PR := fun S ds => match ds with
  | [.int i] => some (i.natAbs.log2 < 1920, .str (toString i))
  | [.str x] => some (True, .str x)
  | _ => none
theorem dcal_str : DCal X (.type "str") (rdC strD1) := dcal_P fun pins s σ H vs us Q S ds c d I rv hs r e hC q => by
  unfold strD1 at e
  split at e
  · cases e
    obtain ⟨v, rfl, r1⟩ := r.one_inv
    cases r1
    exact call_str_int pins s σ H _ us Q I rv ⟨_, rfl, hC, q _ _ (.str _) hs Ext.refl⟩
  · cases e
    obtain ⟨v, rfl, r1⟩ := r.one_inv
    cases r1
    exact SkE.call_str_str pins s σ H _ us Q I rv ⟨_, rfl, q _ _ (.str _) hs Ext.refl⟩
  · cases e
def ordD1 : Sto → List D → PR := fun S ds => match ds with
  | [.str x] => some (x.length = 1, .int (x.cps.getD 0 0 : Nat))
  | _ => none
theorem dcal_ord : DCal X (.builtin "ord") (rdC ordD1) := dcal_P fun pins s σ H vs us Q S ds c d I rv hs r e hC q => by
  unfold ordD1 at e
  split at e
  · cases e
    obtain ⟨v, rfl, r1⟩ := r.one_inv
    cases r1
    exact call_ord pins s σ H _ us Q I rv ⟨_, rfl, hC, q _ _ (.int _) hs Ext.refl⟩
  · cases e
/-- repr of data -/
def reprOk (d : D) : Prop := isDt d = true ∧ (pyd d).showable = true ∧ (pyd d).hasDict = false ∧ (pyd d).shown.length ≤ sizeLine ∧ (pyd d).depth ≤ 100
def reprR : Sto → List D → PR := fun S ds => match ds with
  | [x] => some (reprOk (res S x), .str (pyd (res S x)).shown)
  | _ => none
theorem dp_ref {K : PySem.W.Frag} {H : Hp} {a : Addr} {d : PyData} (h : Dp K H (.ref a) d) : (∃ xs, d = .list xs) ∨ ∃ xs, d = .tuple xs := by
  cases h with
  | lst h r => exact .inl ⟨_, rfl⟩
  | tup h r => exact .inr ⟨_, rfl⟩
theorem dcal_repr (hg : X.A.guards = some []) (hu : X.A.units + 200 < cLine) : DCal X (.builtin "repr") (rdC reprR) := dcal_P fun pins s σ H vs us Q S ds c d I rv hs r e hC q => by
  unfold reprR at e
  split at e
  · cases e
    obtain ⟨v, rfl, r1⟩ := r.one_inv
    obtain ⟨h1, h2, h3, h4, h5⟩ := hC
    have hd := res_dp hs r1 h1
    obtain ⟨u, rfl, ru⟩ := vals1 rv
    have fin : ∀ (h' : Heap) (tk : Nat) (t : Tok), (∀ b o, s.heap.get? b = some o → h'.get? b = some o) → EP X pins σ Q (.str (pyd (res S _)).shown t) { s with heap := h', toks := tk } := fun h' tk t hk =>
      ⟨.str _, H, I.kept (t' := tk) hk, ⟨_, rfl⟩, q _ _ (.str _) hs Ext.refl⟩
    generalize res S _ = x at hd h1 h2 h3 h4 h5 fin
    generalize pyd x = y at hd h2 h3 h4 h5 fin
    cases hd with
    | non => cases ru; exact PySem.P.repr_of_none (fin s.heap _ _ fun _ _ e => e)
    | bl b => cases ru; exact PySem.P.repr_of_bool (fin s.heap _ _ fun _ _ e => e)
    | int i => obtain ⟨t, rfl⟩ := ru; exact PySem.P.repr_of_int (by simpa [PyData.showable] using h2) (fin s.heap _ _ fun _ _ e => e)
    | str z => obtain ⟨t, rfl⟩ := ru; exact PySem.P.repr_of_str (fin s.heap _ _ fun _ _ e => e) (by simpa only [PyData.shown] using h4)
    | lst h r3 =>
      obtain rfl : u = Value.ref _ := ru
      obtain ⟨as, hr⟩ := Dp.reads I _ _ _ (.lst h r3) rfl
      exact repr_of_reads' hr h2 (PyData.noDict_hsm h3) hg (by omega) (fun _ _ e => e) (fun h' u tk hk => fin h' tk u hk) h4
    | tup h r3 =>
      obtain rfl : u = Value.ref _ := ru
      obtain ⟨as, hr⟩ := Dp.reads I _ _ _ (.tup h r3) rfl
      exact repr_of_reads' hr h2 (PyData.noDict_hsm h3) hg (by omega) (fun _ _ e => e) (fun h' u tk hk => fin h' tk u hk) h4
  · cases e

/-! ### isinstance of a class that is built in -/
def typD (S : Sto) : D → Option String
  | .non => some "NoneType"
  | .bl _ => some "bool"
  | .int _ => some "int"
  | .str _ => some "str"
  | .tup _ => some "tuple"
  | .lst _ => some "list"
  | .dct _ _ => some "dict"
  | .dtt _ _ => some "dict"
  | .ref a => match S a with
    | some (.lst _) => some "list"
    | some (.dct _ _) => some "dict"
    | some (.dtt _ _) => some "dict"
    | _ => none
  | _ => none
def isaB (a b : String) : Bool := a == b || (a == "bool" && b == "int")
theorem kit_isa : ∀ a ∈ ["NoneType", "bool", "int", "str", "tuple", "list", "dict"], ∀ b ∈ ["NoneType", "bool", "int", "str", "tuple", "list", "dict"], kitB a b = some (isaB a b) := by decide +kernel
theorem typ_rep {K : PySem.W.Frag} {S : Sto} {H : Hp} {d : D} {v : V} {t : String} (hs : RepS K S H) (r : RepD K S H d v) (e : typD S d = some t) : TyX K H v (.type t) ∧ t ∈ ["NoneType", "bool", "int", "str", "tuple", "list", "dict"] := by
  cases r with
  | non => cases e; exact ⟨.base .non, by decide⟩
  | bl b => cases e; exact ⟨.base (.bl b), by decide⟩
  | int i => cases e; exact ⟨.base (.int i), by decide⟩
  | str x => cases e; exact ⟨.base (.str x), by decide⟩
  | ty n => cases e
  | ref a =>
    unfold typD at e
    cases q : S a with
    | none => simp only [q] at e; cases e
    | some o =>
      obtain ⟨u, h1, h2⟩ := hs a o q
      cases h2 with
      | lst r => simp only [q] at e; cases e; exact ⟨.base (.lst h1), by decide⟩
      | dK l k r => simp only [q] at e; cases e; exact ⟨.base (.dK h1), by decide⟩
      | dT l k r => simp only [q] at e; cases e; exact ⟨.base (.dT h1), by decide⟩
      | ins r => simp only [q] at e; cases e
  | tup h r =>
    cases e
    refine ⟨?_, by decide⟩
    rcases h with ⟨_, h | ⟨o, h⟩⟩ | ⟨o, its, n, h1, h2, h3⟩
    · exact .base (.tup h)
    · exact .fTuple h
    · exact .kTuple h1 h2
  | lst n h r => cases e; exact ⟨.base (.lst h), by decide⟩
  | scr h r => cases e
  | dctK n h l k r => cases e; exact ⟨.base (.dK h), by decide⟩
  | dctT n h l k r => cases e; exact ⟨.base (.dT h), by decide⟩
def isiD : Sto → List D → PR := fun S ds => match ds with
  | [x, .ty n] => match typD S x with
    | some t => some (n ∈ ["NoneType", "bool", "int", "str", "tuple", "list", "dict"], .bl (isaB t n))
    | none => none
  | _ => none
theorem dcal_isi : DCal X (.builtin "isinstance") (rdC isiD) := dcal_P fun pins s σ H vs us Q S ds c d I rv hs r e hC q => by
  unfold isiD at e
  split at e
  · split at e
    · rename_i t et
      cases e
      obtain ⟨v, u, rfl, r1, r2⟩ := r.two_inv
      cases r2
      obtain ⟨h1, h2⟩ := typ_rep hs r1 et
      exact call_isi pins s σ H _ us Q I rv ⟨_, _, _, _, _, rfl, .ty _, h1, kit_ty (kit_isa _ h2 _ hC), q _ _ (.bl _) hs Ext.refl⟩
    · cases e
  · cases e
end
end PL

namespace PL
open PySem PySem.Spec PyProof.Rows L2

/-! ### targets: a name, a tuple of targets -/
mutual
inductive TPat where
  | nm (i : Nat)
  | tp (l : TPats)
inductive TPats where
  | nil
  | cons (p : TPat) (l : TPats)
end
def TPats.len : TPats → Nat
  | .nil => 0
  | .cons _ l => l.len + 1
mutual
def bindD : TPat → D → Env' → Option Env'
  | .nm i, d, env => some (env.set i (some d))
  | .tp l, d, env => match d with
    | .tup ds => bindDs l ds env
    | _ => none
def bindDs : TPats → List D → Env' → Option Env'
  | .nil, ds, env => match ds with
    | [] => some env
    | _ => none
  | .cons p l, ds, env => match ds with
    | [] => none
    | d :: r => match bindD p d env with
      | some env' => bindDs l r env'
      | none => none
end
mutual
def gOf (K : PySem.W.Frag) : TPat → TG
  | .nm i => gName i
  | .tp l => gTup K l.len (gsOf K l)
def gsOf (K : PySem.W.Frag) : TPats → TGs
  | .nil => gNil
  | .cons p l => gCons (gOf K p) (gsOf K l)
end
mutual
def slots : TPat → List Nat
  | .nm i => [i]
  | .tp l => slotsS l
def slotsS : TPats → List Nat
  | .nil => []
  | .cons p l => slots p ++ slotsS l
end
/-- two frames that are the same but at some places -/
def SameOut (vs : List Nat) (σ σ' : L2.St) : Prop := σ'.length = σ.length ∧ ∀ j, j ∉ vs → σ'[j]? = σ[j]?
theorem SameOut.refl {vs : List Nat} {σ : L2.St} : SameOut vs σ σ := ⟨rfl, fun _ _ => rfl⟩
theorem SameOut.trans {vs ws : List Nat} {σ σ1 σ2 : L2.St} (a : SameOut vs σ σ1) (b : SameOut ws σ1 σ2) : SameOut (vs ++ ws) σ σ2 :=
  ⟨b.1.trans a.1, fun j hj => by
    rw [List.mem_append, not_or] at hj
    exact (b.2 j hj.2).trans (a.2 j hj.1)⟩
theorem bindDs_len {env env' : Env'} : ∀ {l : TPats} {ds : List D} {env : Env'}, bindDs l ds env = some env' → ds.length = l.len
  | .nil, ds, env, e => by
    unfold bindDs at e
    split at e
    · rfl
    · cases e
  | .cons p l, ds, env, e => by
    unfold bindDs at e
    split at e
    · cases e
    · split at e
      · rw [List.length_cons, bindDs_len (env := env) e]; rfl
      · cases e
section
variable {K : PySem.W.Frag} {S : Sto} {H : Hp}
mutual
theorem bind_ok : ∀ (p : TPat) {d : D} {env env' : Env'} {v : V} {σ : L2.St} {Q : L2.St → Hp → Prop}, bindD p d env = some env' → RepD K S H d v → RepEnv K S H env σ → (∀ σ', RepEnv K S H env' σ' → SameOut (slots p) σ σ' → Q σ' H) → gOf K p v σ H Q
  | .nm i, d, env, env', v, σ, Q, e, r, he, q => by
    unfold bindD at e
    cases e
    unfold gOf
    refine q _ (he.set r) ⟨by simp, fun j hj => ?_⟩
    unfold slots at hj
    rw [List.getElem?_set_ne (fun e => hj (by simp [e]))]
  | .tp l, d, env, env', v, σ, Q, e, r, he, q => by
    unfold bindD at e
    split at e
    · cases r with
      | tup h r =>
        unfold gOf
        refine ⟨_, _, rfl, h.sq, by rw [← r.len]; exact bindDs_len (env := env) e, ?_⟩
        exact binds_ok l e r he fun σ' h1 h2 => q σ' h1 (by unfold slots; exact h2)
    · cases e
theorem binds_ok : ∀ (l : TPats) {ds : List D} {env env' : Env'} {vs : List V} {σ : L2.St} {Q : L2.St → Hp → Prop}, bindDs l ds env = some env' → RepDs K S H ds vs → RepEnv K S H env σ → (∀ σ', RepEnv K S H env' σ' → SameOut (slotsS l) σ σ' → Q σ' H) → gsOf K l vs σ H Q
  | .nil, ds, env, env', vs, σ, Q, e, r, he, q => by
    unfold bindDs at e
    split at e
    · cases e
      cases r
      unfold gsOf
      exact ⟨rfl, q _ he .refl⟩
    · cases e
  | .cons p l, ds, env, env', vs, σ, Q, e, r, he, q => by
    unfold bindDs at e
    split at e
    · cases e
    · split at e
      · rename_i d ds' env1 e1
        cases r with
        | cons h t =>
          unfold gsOf
          refine ⟨_, _, rfl, bind_ok p e1 h he fun σ1 h1 s1 => binds_ok l e t h1 fun σ2 h2 s2 => q σ2 h2 ?_⟩
          unfold slotsS
          exact s1.trans s2
      · cases e
end
end
theorem wipe_get (σ : L2.St) (j : Nat) : ∀ vs : List Nat, (wipe σ vs)[j]? = if j ∈ vs then (σ[j]?).map (fun _ => none) else σ[j]?
  | [] => by simp [wipe]
  | v :: vs => by
    unfold wipe
    rw [List.getElem?_set, wipe_length, wipe_get σ j vs]
    by_cases h : v = j
    · subst h
      rw [if_pos rfl, if_pos (List.mem_cons_self)]
      split
      · rename_i hl; rw [List.getElem?_eq_getElem hl]; rfl
      · rename_i hl; rw [List.getElem?_eq_none (by omega)]; rfl
    · rw [if_neg h]
      by_cases h2 : j ∈ vs
      · rw [if_pos h2, if_pos (List.mem_cons_of_mem _ h2)]
      · rw [if_neg h2, if_neg (by rw [List.mem_cons, not_or]; exact ⟨fun e => h e.symm, h2⟩)]
theorem wipe_same {σ σ' : L2.St} {vs ws : List Nat} (h : SameOut vs σ σ') (hs : ∀ j ∈ vs, j ∈ ws) : wipe σ' ws = wipe σ ws := by
  apply List.ext_getElem?
  intro j
  rw [wipe_get, wipe_get]
  by_cases hj : j ∈ ws
  · rw [if_pos hj, if_pos hj]
    by_cases hl : j < σ.length
    · rw [List.getElem?_eq_getElem hl, List.getElem?_eq_getElem (by rw [h.1]; exact hl)]; rfl
    · have h1 := h.1
      rw [List.getElem?_eq_none (l := σ') (by omega), List.getElem?_eq_none (l := σ) (by omega)]
  · rw [if_neg hj, if_neg hj]
    exact h.2 j fun e => hj (hs j e)
theorem wipe_idem (σ : L2.St) (vs : List Nat) : wipe (wipe σ vs) vs = wipe σ vs := by
  apply List.ext_getElem?
  intro j
  rw [wipe_get, wipe_get]
  by_cases hj : j ∈ vs
  · rw [if_pos hj, if_pos hj]
    cases σ[j]? <;> rfl
  · rw [if_neg hj, if_neg hj]
def wipeD (env : Env') : List Nat → Env'
  | [] => env
  | v :: vs => (wipeD env vs).set v none
theorem RepEnv.wipe {K : PySem.W.Frag} {S : Sto} {H : Hp} {env : Env'} {σ : L2.St} (h : RepEnv K S H env σ) : ∀ vs : List Nat, RepEnv K S H (wipeD env vs) (L2.wipe σ vs)
  | [] => h
  | v :: vs => by
    unfold wipeD L2.wipe
    exact (RepEnv.wipe h vs).forget

section
variable {X : Cx} {pos : Pos}
structure DP (X : Cx) (tg : Expr) (p : TPat) : Prop where
  run : PG X tg (gOf X.K p)
structure DPs (X : Cx) (tg : List Expr) (p : TPats) : Prop where
  run : PGs X tg (gsOf X.K p)
theorem dp_name {i : Nat} {x : Str} (hN : X.N.Nodup) (hi : X.N[i]? = some x) (hx : Loc X.env.scope x) (hf : X.fn x = true ∨ X.env.scope.names.lookup x = some .local := by first | exact .inl rfl | exact .inr rfl | assumption) : DP X (.Name x pos) (.nm i) :=
  ⟨by have h := pg_name (pos := pos) hN hi hx hf; unfold gOf; exact h⟩
theorem dps_nil : DPs X [] .nil := ⟨by have h := pgs_nil (X := X); unfold gsOf; exact h⟩
theorem dps_cons {e : Expr} {es : List Expr} {p : TPat} {l : TPats} (h1 : DP X e p) (h2 : DPs X es l)
    (hs : (assignEach (e :: es) X.env).map (·.2) = assign e X.env :: (assignEach es X.env).map (·.2) := by rfl) : DPs X (e :: es) (.cons p l) :=
  ⟨by have h := pgs_cons h1.run h2.run hs; unfold gsOf; exact h⟩
theorem dp_tup {es : List Expr} {k : Nat} {l : TPats} (hc : X.calm = true) (h : DPs X es l) (hn : (assignEach es X.env).length = l.len := by rfl) (hst : (assignEach es X.env).findIdx? (·.1) = none := by rfl) : DP X (.Tuple es k pos) (.tp l) :=
  ⟨by have h := pg_tup (pos := pos) (k := k) hc h.run hn hst; unfold gOf; exact h⟩

/-! ### statements -/
variable {e c o i : Expr} {te to ti : TED} {st : Stmt} {rest body : List Stmt} {t u : TSD} {tc : TTD}
def tdNext : TSD := fun De env S => De.nx env S
def tdSeq (t u : TSD) : TSD := fun De env S => t { De with nx := u De } env S
theorem dss_nil : DSs X [] tdNext where
  mono := fun De De' env S h q => h.nx _ _ q
  run := pss_imp pss_nil fun D σ H ⟨env, S, he, hs, De, eu, q⟩ => eu.nx env S σ H he hs Ext.refl q
theorem tdSeq_mono (m1 : ∀ De De' env S, EndsD.Le De De' → t De env S → t De' env S) (m2 : ∀ De De' env S, EndsD.Le De De' → u De env S → u De' env S) : ∀ De De' env S, EndsD.Le De De' → tdSeq t u De env S → tdSeq t u De' env S :=
  fun De De' env S h q => m1 { De with nx := u De } { De' with nx := u De' } _ _ ⟨fun e s q => m2 _ _ _ _ h q, h.rt, h.bk, h.ct⟩ q
theorem dss_cons (h1 : DS X st t) (h2 : DSs X rest u) : DSs X (st :: rest) (tdSeq t u) where
  mono := tdSeq_mono h1.mono h2.mono
  run := pss_imp (pss_cons h1.run h2.run) fun D σ H ⟨env, S, he, hs, De, eu, q⟩ =>
    ⟨env, S, he, hs, { De with nx := u De }, ⟨fun env1 S1 σ1 H1 he1 hs1 e1 q1 => ⟨env1, S1, he1, hs1, De, eu.ext e1, q1⟩, eu.rt, eu.bk, eu.ct⟩, q⟩
theorem dss_one (h1 : DS X st t) : DSs X [st] t := ⟨h1.mono, pss_one h1.run⟩
theorem ds_pass : DS X (.Pass pos) tdNext where
  mono := fun De De' env S h q => h.nx _ _ q
  run := ps_imp ps_pass fun D σ H ⟨env, S, he, hs, De, eu, q⟩ => eu.nx env S σ H he hs Ext.refl q
def tdBreak : TSD := fun De env S => De.bk env S
def tdCont : TSD := fun De env S => De.ct env S
theorem ds_break : DS X (.Break pos) tdBreak where
  mono := fun De De' env S h q => h.bk _ _ q
  run := ps_imp ps_break fun D σ H ⟨env, S, he, hs, De, eu, q⟩ => eu.bk env S σ H he hs Ext.refl q
theorem ds_continue : DS X (.Continue pos) tdCont where
  mono := fun De De' env S h q => h.ct _ _ q
  run := ps_imp ps_continue fun D σ H ⟨env, S, he, hs, De, eu, q⟩ => eu.ct env S σ H he hs Ext.refl q
def tdDrop (te : TED) : TSD := fun De env S => te env S fun _ S1 => De.nx env S1
theorem ds_expr (he : DE X e te) (hs : swapsWith e none pos.line X.env = pure false := by rfl) : DS X (.Expr e pos) (tdDrop te) where
  mono := fun De De' env S h q => he.mono _ _ _ _ (fun d s q => h.nx _ _ q) q
  run := ps_imp (ps_expr he.run hs) fun D σ H ⟨env, S, hev, hst, De, eu, q⟩ => ⟨env, S, hev, hst, he.mono _ _ _ _ (fun d S1 q v H1 r s1 e1 => eu.nx env S1 σ H1 (hev.ext e1) s1 e1 q) q⟩
def tdRet (te : TED) : TSD := fun De env S => te env S De.rt
theorem ds_ret (he : DE X e te) : DS X (.Return (some e) pos) (tdRet te) where
  mono := fun De De' env S h q => he.mono _ _ _ _ h.rt q
  run := ps_imp (ps_ret he.run) fun D σ H ⟨env, S, hev, hst, De, eu, q⟩ => ⟨env, S, hev, hst, he.mono _ _ _ _ (fun d S1 q v H1 r s1 e1 => eu.rt d S1 v H1 r s1 e1 q) q⟩
def tdRetN : TSD := fun De _ S => De.rt .non S
theorem ds_retN : DS X (.Return none pos) tdRetN where
  mono := fun De De' env S h q => h.rt _ _ q
  run := ps_imp ps_retN fun D σ H ⟨env, S, he, hs, De, eu, q⟩ => eu.rt .non S .non H .non hs Ext.refl q
def tdIfS (c : TTD) (t u : TSD) : TSD := fun De env S => c env S fun b S1 => if b = true then t De env S1 else u De env S1
theorem ds_if {a b : List Stmt} (hc : DT X c tc) (ha : DSs X a t) (hb : DSs X b u) : DS X (.If c a b pos) (tdIfS tc t u) where
  mono := fun De De' env S h q => hc.mono _ _ _ _ (fun k s q => by
    cases k with
    | true => rw [if_pos rfl] at q ⊢; exact ha.mono _ _ _ _ h q
    | false => rw [if_neg Bool.false_ne_true] at q ⊢; exact hb.mono _ _ _ _ h q) q
  run := ps_imp (ps_if hc.run ha.run hb.run) fun D σ H ⟨env, S, hev, hst, De, eu, q⟩ => ⟨env, S, hev, hst, hc.mono _ _ _ _ (fun k S1 q H1 s1 e1 => by
    cases k with
    | true => rw [if_pos rfl] at q ⊢; exact ⟨env, S1, hev.ext e1, s1, De, eu.ext e1, q⟩
    | false => rw [if_neg Bool.false_ne_true] at q ⊢; exact ⟨env, S1, hev.ext e1, s1, De, eu.ext e1, q⟩) q⟩
/-- target = value -/
def tdAsg (te : TED) (p : TPat) : TSD := fun De env S => te env S fun d S1 => match bindD p d env with
  | some env' => De.nx env' S1
  | none => False
theorem tdAsg_mono {p : TPat} (m : ∀ env S (Q Q' : QD), (∀ d s, Q d s → Q' d s) → te env S Q → te env S Q') : ∀ De De' env S, EndsD.Le De De' → tdAsg te p De env S → tdAsg te p De' env S :=
  fun De De' env S h q => m _ _ _ _ (fun d s q => by
    split at q
    · exact h.nx _ _ q
    · exact q.elim) q
theorem asg_run {p : TPat} (m : ∀ env S (Q Q' : QD), (∀ d s, Q d s → Q' d s) → te env S Q → te env S Q') {D : Ends} {σ : L2.St} {H : Hp} (h : liftS X.K (tdAsg te p) D σ H) : tAsg (liftE X.K te) (gOf X.K p) D σ H := by
  obtain ⟨env, S, hev, hst, De, eu, q⟩ := h
  refine ⟨env, S, hev, hst, m _ _ _ _ (fun d S1 q v H1 r s1 e1 => ?_) q⟩
  split at q
  · rename_i env' eb
    exact bind_ok p eb r (hev.ext e1) fun σ' h1 h2 => eu.nx _ _ _ _ h1 s1 e1 q
  · exact q.elim
theorem ds_asg {tg : Expr} {p : TPat} (he : DE X e te) (hp : DP X tg p) (hs : swapsWithSole [tg] e pos.line X.env = pure false := by rfl) (hw : swappedStores [tg] e X.env = pure none := by rfl)
    (h1 : (assignEach [tg] X.env).map (·.2) = [assign tg X.env] := by rfl) : DS X (.Assign [tg] e pos) (tdAsg te p) where
  mono := tdAsg_mono he.mono
  run := ps_imp (ps_asg he.run hp.run hs hw h1) fun D σ H q => asg_run he.mono q
/-- name = value -/
theorem ds_set {i : Nat} {x : Str} {pos' : Pos} (hN : X.N.Nodup) (hi : X.N[i]? = some x) (hx : Loc X.env.scope x) (he : DE X e te) (hs : swapsWith e (some (.Name x pos')) pos.line X.env = pure false := by rfl) (hf : X.fn x = true ∨ X.env.scope.names.lookup x = some .local := by first | exact .inl rfl | exact .inr rfl | assumption) :
    DS X (.Assign [.Name x pos'] e pos) (tdAsg te (.nm i)) where
  mono := tdAsg_mono he.mono
  run := ps_imp (ps_set hN hi hx he.run hs hf) fun D σ H q => by
    have h := asg_run he.mono q
    unfold gOf at h
    exact h
/-- a, b = x, y -/
def tdPar (vs : List Nat) (ta : TAD) : TSD := fun De env S => ta env S fun ds S1 => ds.length = vs.length ∧ De.nx ((vs.zip ds).foldl (fun e p => e.set p.1 (some p.2)) env) S1
theorem tdPar_mono {es : List Expr} {vs : List Nat} {ta : TAD} (ha : DA X es ta) : ∀ De De' env S, EndsD.Le De De' → tdPar vs ta De env S → tdPar vs ta De' env S :=
  fun De De' env S h q => ha.mono _ _ _ _ (fun d s q => ⟨q.1, h.nx _ _ q.2⟩) q
theorem ds_par {i j : Nat} {x y : Str} {a b : Expr} {ta : TAD} {px py pt : Pos} {kt k2 pt2} (hc : X.calm = true) (hN : X.N.Nodup) (hi : X.N[i]? = some x) (hj : X.N[j]? = some y) (hij : i ≠ j)
    (hx : X.env.scope.names.lookup x = some .local) (hy : X.env.scope.names.lookup y = some .local) (ha : DA X [a, b] ta)
    (hw : swappedStores [.Tuple [.Name x px, .Name y py] kt pt] (.Tuple [a, b] k2 pt2) X.env = pure (some [x, y]))
    (hs : swapsWithSole [.Tuple [.Name x px, .Name y py] kt pt] (.Tuple [a, b] k2 pt2) pos.line X.env = pure false := by rfl) :
    DS X (.Assign [.Tuple [.Name x px, .Name y py] kt pt] (.Tuple [a, b] k2 pt2) pos) (tdPar [i, j] ta) where
  mono := tdPar_mono ha
  run := ps_imp (ps_par hc hN hi hj hij hx hy ha.run hw hs) fun D σ H ⟨env, S, hev, hst, De, eu, q⟩ => ⟨env, S, hev, hst, ha.mono _ _ _ _ (fun ds S1 q vs H1 r s1 e1 => by
    obtain ⟨hl, q⟩ := q
    match ds, hl, r, q with
    | [d1, d2], _, r, q =>
      obtain ⟨v, u, rfl, r1, r2⟩ := r.two_inv
      exact ⟨v, u, rfl, eu.nx _ _ _ _ (((hev.ext e1).set r1).set r2) s1 e1 q⟩) q⟩
theorem RepDs.three_inv {K : PySem.W.Frag} {S : Sto} {H : Hp} {d e f : D} {vs : List V} (r : RepDs K S H [d, e, f] vs) : ∃ v u w, vs = [v, u, w] ∧ RepD K S H d v ∧ RepD K S H e u ∧ RepD K S H f w := by
  cases r with
  | cons h t =>
    obtain ⟨u, w, rfl, h2, h3⟩ := t.two_inv
    exact ⟨_, _, _, rfl, h, h2, h3⟩
theorem ds_par3 {i j l : Nat} {x y z : Str} {a b c : Expr} {ta : TAD} {px py pz pt pos : Pos} {kt k2 pt2} (hc : X.calm = true) (hN : X.N.Nodup) (hi : X.N[i]? = some x) (hj : X.N[j]? = some y) (hl : X.N[l]? = some z) (hij : i ≠ j) (hil : i ≠ l) (hjl : j ≠ l)
    (hx : X.env.scope.names.lookup x = some .local) (hy : X.env.scope.names.lookup y = some .local) (hz : X.env.scope.names.lookup z = some .local) (ha : DA X [a, b, c] ta)
    (hw : swappedStores [.Tuple [.Name x px, .Name y py, .Name z pz] kt pt] (.Tuple [a, b, c] k2 pt2) X.env = pure (some [x, y, z]))
    (hs : swapsWithSole [.Tuple [.Name x px, .Name y py, .Name z pz] kt pt] (.Tuple [a, b, c] k2 pt2) pos.line X.env = pure false := by rfl) :
    DS X (.Assign [.Tuple [.Name x px, .Name y py, .Name z pz] kt pt] (.Tuple [a, b, c] k2 pt2) pos) (tdPar [i, j, l] ta) where
  mono := tdPar_mono ha
  run := ps_imp (ps_par3 hc hN hi hj hl hij hil hjl hx hy hz ha.run hw hs) fun D σ H ⟨env, S, hev, hst, De, eu, q⟩ => ⟨env, S, hev, hst, ha.mono _ _ _ _ (fun ds S1 q vs H1 r s1 e1 => by
    obtain ⟨hl, q⟩ := q
    match ds, hl, r, q with
    | [d1, d2, d3], _, r, q =>
      obtain ⟨v, u, w, rfl, r1, r2, r3⟩ := r.three_inv
      exact ⟨v, u, w, rfl, eu.nx _ _ _ _ ((((hev.ext e1).set r1).set r2).set r3) s1 e1 q⟩) q⟩

/-! ### o[i] = e of a list of the store -/
def tdSetI (te to ti : TED) : TSD := fun De env S => te env S fun d S1 => to env S1 fun x S2 => ti env S2 fun y S3 => match x, y with
  | .ref a, .int k => match S3 a with
    | some (.lst ds) => match ixN ds.length k with
      | some j => De.nx env (sup S3 a (.lst (ds.set j d)))
      | none => False
    | _ => False
  | _, _ => False
theorem ds_setI {p1 : Pos} (he : DE X e te) (ho : DE X o to) (hi : DE X i ti)
    (ha : ∀ v, assign (.Subscript o i p1) X.env v = (do
      let ov ← holding [v] (eval o X.env)
      let iv ← holding [v, ov] (eval i X.env)
      standAt p1
      holding [v, ov, iv] (setItem ov iv v)
      release [v, ov, iv] []) := by intro _; rfl)
    (hs : swapsWithSole [.Subscript o i p1] e pos.line X.env = pure false := by rfl) (hw : swappedStores [.Subscript o i p1] e X.env = pure none := by rfl)
    (h1 : (assignEach [.Subscript o i p1] X.env).map (·.2) = [assign (.Subscript o i p1) X.env] := by rfl) : DS X (.Assign [.Subscript o i p1] e pos) (tdSetI te to ti) where
  mono := fun De De' env S h q => he.mono _ _ _ _ (fun d s q => ho.mono _ _ _ _ (fun x s q => hi.mono _ _ _ _ (fun y s q => by
    split at q
    · split at q
      · split at q
        · exact h.nx _ _ q
        · exact q.elim
      · exact q.elim
    · exact q.elim) q) q) q
  run := ps_imp (ps_asg he.run (pg_sub ho.run hi.run set_list ha) hs hw h1) fun D σ H ⟨env, S, hev, hst, De, eu, q⟩ => ⟨env, S, hev, hst, he.mono _ _ _ _ (fun d S1 q v H1 r s1 e1 =>
    ⟨env, S1, hev.ext e1, s1, ho.mono _ _ _ _ (fun x S2 q v2 H2 r2 s2 e2 => ⟨env, S2, hev.ext (e1.trans e2), s2, hi.mono _ _ _ _ (fun y S3 q v3 H3 r3 s3 e3 => by
      split at q
      · split at q
        · split at q
          · rename_i a k _ _ ds es _ j ej
            cases r2; cases r3

            obtain ⟨u, h1, h2⟩ := s3 a _ es
            cases h2 with
            | lst rl =>
              refine ⟨a, _, k, j, rfl, rfl, h1, by rw [← rl.len]; exact ej, ?_⟩
              have e13 := (e1.trans e2).trans e3
              exact eu.nx _ _ _ _ (hev.ext (e13.trans (Ext.write es))) (s3.write es (.lst (rl.set ((r.ext (e2.trans e3))) j))) (e13.trans (Ext.write es)) q
          · exact q.elim
        · exact q.elim
      · exact q.elim) q⟩) q⟩) q⟩

/-! ### loops -/
structure Yields (K : PySem.W.Frag) (S : Sto) (H : Hp) (J : It) (ds : List D) : Prop where
  go : ∀ S' H', Ext S H S' H' → RepS K S' H' → ∀ (i : Nat) (d : D), ds[i]? = some d → J.go i H' ∧ ∀ x H'', J.yld i H' x H'' → RepD K S' H'' d x ∧ RepS K S' H'' ∧ Ext S' H' S' H''
  stop : ∀ S' H', Ext S H S' H' → RepS K S' H' → J.stop ds.length H'
abbrev TID := Env' → Sto → (List D → Sto → Prop) → Prop
def liftI (K : PySem.W.Frag) (w : TID) : TI := fun σ H R => ∃ env S, RepEnv K S H env σ ∧ RepS K S H ∧ w env S fun ds S' => ∀ J H', Yields K S' H' J ds → RepS K S' H' → Ext S H S' H' → R J H'
structure DI (X : Cx) (tg iter : Expr) (w : TID) : Prop where
  mono : ∀ env S (Q Q' : List D → Sto → Prop), (∀ d s, Q d s → Q' d s) → w env S Q → w env S Q'
  run : PI X tg iter (liftI X.K w)
theorem pi_imp {tg iter : Expr} {w w' : TI} (h : PI X tg iter w) (i : ∀ σ H R, w' σ H R → w σ H R) : PI X tg iter w' := ⟨fun pins s σ H R I q => h.run pins s σ H R I (i σ H R q)⟩
def forD (p : TPat) (tb : TSD) : List D → TSD
  | [] => fun De env S => De.nx env S
  | d :: r => fun De env S => match bindD p d env with
    | some env' => tb { De with nx := forD p tb r De, ct := forD p tb r De, bk := De.nx } env' S
    | none => False
def tdFor (w : TID) (p : TPat) (tb : TSD) : TSD := fun De env S => w env S fun ds S1 => forD p tb ds De env S1
variable {tg iter : Expr} {w : TID} {p : TPat} {tb : TSD}
theorem forD_mono (m : ∀ De De' env S, EndsD.Le De De' → tb De env S → tb De' env S) : ∀ (ds : List D) De De' env S, EndsD.Le De De' → forD p tb ds De env S → forD p tb ds De' env S
  | [], De, De', env, S, h, q => h.nx _ _ q
  | d :: r, De, De', env, S, h, q => by
    unfold forD at q ⊢
    split at q
    · rename_i env' e
      exact m { De with nx := forD p tb r De, ct := forD p tb r De, bk := De.nx } _ _ _ ⟨fun e s q => forD_mono m r _ _ _ _ h q, h.rt, h.nx, fun e s q => forD_mono m r _ _ _ _ h q⟩ q
    · exact q.elim
theorem ds_for (hp : PassesOwn (model X.prog X.w) X.A X.env X.xe) (hc : X.calm = true) (hi : DI X tg iter w) (hg : DP X tg p) (hb : DSs X body tb) (hs : ∀ x, foldedSetIterable iter X.env x = pure x := by intro _; rfl) : DS X (.For tg iter body [] pos) (tdFor w p tb) where
  mono := fun De De' env S h q => hi.mono _ _ _ _ (fun ds s q => forD_mono hb.mono ds _ _ _ _ h q) q
  run := ps_imp (ps_for hp hc hi.run hg.run hb.run hs) fun D σ H ⟨env, S, hev, hst, De, eu, q⟩ => ⟨env, S, hev, hst, hi.mono _ _ _ _ (fun ds S1 q J H1 Y s1 e1 => by
    refine ⟨fun i m σ H => ∃ env S, RepEnv X.K S H env σ ∧ RepS X.K S H ∧ Ext S1 H1 S H ∧ i + m = ds.length ∧ forD p tb (ds.drop i) De env S, ⟨ds.length, env, S1, hev.ext e1, s1, Ext.refl, by omega, q⟩, fun i m σ2 H2 hW => ?_⟩
    obtain ⟨env2, S2, he2, s2, e2, hm, q2⟩ := hW
    by_cases hi : i < ds.length
    · have hd : ds[i]? = some ds[i] := List.getElem?_eq_getElem hi
      rw [List.drop_eq_getElem_cons hi] at q2
      unfold forD at q2
      split at q2
      · rename_i env3 eb
        obtain ⟨g1, g2⟩ := Y.go S2 H2 e2 s2 i _ hd
        refine .inr ⟨g1, fun σ' H' => ∃ env S, RepEnv X.K S H' env σ' ∧ RepS X.K S H' ∧ Ext S1 H1 S H' ∧ forD p tb (ds.drop (i + 1)) De env S, fun σ' H' ⟨en, Sn, a1, a2, a3, a4⟩ => ⟨m - 1, by omega, en, Sn, a1, a2, a3, by omega, a4⟩, fun x H3 hy => ?_⟩
        obtain ⟨rx, s3, e3⟩ := g2 x H3 hy
        refine bind_ok p eb rx (he2.ext e3) fun σ3 he3 _ => ?_
        refine ⟨env3, S2, he3, s3, _, ?_, q2⟩
        have e13 := e2.trans e3
        exact ⟨fun en Sn σn Hn a1 a2 a3 a4 => ⟨en, Sn, a1, a2, e13.trans a3, a4⟩, fun d Sn v Hn a1 a2 a3 a4 => eu.rt d Sn v Hn a1 a2 ((e1.trans e13).trans a3) a4,
          fun en Sn σn Hn a1 a2 a3 a4 => eu.nx en Sn σn Hn a1 a2 ((e1.trans e13).trans a3) a4, fun en Sn σn Hn a1 a2 a3 a4 => ⟨en, Sn, a1, a2, e13.trans a3, a4⟩⟩
      · exact q2.elim
    · have hi' : i = ds.length := by omega
      rw [List.drop_of_length_le (by omega)] at q2
      refine .inl ⟨hi' ▸ Y.stop S2 H2 e2 s2, eu.nx env2 S2 σ2 H2 he2 s2 (e1.trans e2) q2⟩) q⟩
/-- while, by a word and a number that falls -/
def tdWhile (c : TTD) (tb : TSD) : TSD := fun De env S => ∃ W : Nat → Env' → Sto → Prop, (∃ m, W m env S) ∧ ∀ m env S, W m env S →
  c env S fun b S1 => if b = true then tb { De with nx := fun en Sn => ∃ m', m' < m ∧ W m' en Sn, ct := fun en Sn => ∃ m', m' < m ∧ W m' en Sn, bk := De.nx } env S1 else De.nx env S1
theorem ds_while (hp : PassesOwn (model X.prog X.w) X.A X.env X.xe) (hc : DT X c tc) (hb : DSs X body tb) : DS X (.While c body [] pos) (tdWhile tc tb) where
  mono := fun De De' env S h ⟨W, h0, q⟩ => ⟨W, h0, fun m env S hw => hc.mono _ _ _ _ (fun b s q => by
    cases b with
    | true => rw [if_pos rfl] at q ⊢; exact hb.mono { De with nx := fun en Sn => ∃ m', m' < m ∧ W m' en Sn, ct := fun en Sn => ∃ m', m' < m ∧ W m' en Sn, bk := De.nx } _ _ _ ⟨fun _ _ q => q, h.rt, h.nx, fun _ _ q => q⟩ q
    | false => rw [if_neg Bool.false_ne_true] at q ⊢; exact h.nx _ _ q) (q m env S hw)⟩
  run := ps_imp (ps_while hp hc.run hb.run) fun D σ H ⟨env, S, hev, hst, De, eu, W, ⟨m0, w0⟩, q⟩ => by
    refine ⟨fun m σ' H' => ∃ en Sn, RepEnv X.K Sn H' en σ' ∧ RepS X.K Sn H' ∧ Ext S H Sn H' ∧ W m en Sn, ⟨m0, env, S, hev, hst, Ext.refl, w0⟩, fun m σ2 H2 ⟨env2, S2, he2, s2, e2, w2⟩ => ?_⟩
    refine ⟨env2, S2, he2, s2, hc.mono _ _ _ _ (fun b S3 q3 H3 s3 e3 => ?_) (q m env2 S2 w2)⟩
    have e13 := e2.trans e3
    cases b with
    | true =>
      rw [if_pos rfl] at q3
      refine iteT ?_
      refine ⟨fun σ' H' => ∃ m', m' < m ∧ ∃ en Sn, RepEnv X.K Sn H' en σ' ∧ RepS X.K Sn H' ∧ Ext S H Sn H' ∧ W m' en Sn, fun _ _ h => h, env2, S3, he2.ext e3, s3, _, ?_, q3⟩
      exact ⟨fun en Sn σn Hn a1 a2 a3 ⟨m', l, a4⟩ => ⟨m', l, en, Sn, a1, a2, e13.trans a3, a4⟩, fun d Sn v Hn a1 a2 a3 a4 => eu.rt d Sn v Hn a1 a2 (e13.trans a3) a4,
        fun en Sn σn Hn a1 a2 a3 a4 => eu.nx en Sn σn Hn a1 a2 (e13.trans a3) a4, fun en Sn σn Hn a1 a2 a3 ⟨m', l, a4⟩ => ⟨m', l, en, Sn, a1, a2, e13.trans a3, a4⟩⟩
    | false =>
      rw [if_neg Bool.false_ne_true] at q3
      refine iteF ?_
      exact eu.nx env2 S3 σ2 H3 (he2.ext e3) s3 e13 q3
end
end PL

namespace PL
open PySem PySem.Spec PyProof.Rows L2

/-! ### a def's promise where nothing is being shown (no guard of a repr stands around) -/
structure GFn (P : Program) (w : World) (K : PySem.W.Frag) (mg : Str → Option Value) (base : Heap) (CX : CXT) (k : Nat) (f : Addr) (fd : FuncData) (ps : List Str) (sp : Sp) : Prop where
  len : ∀ vs H Q E, sp vs H Q E → vs.length = ps.length
  go : ∀ (A : Around) (outer : List Env) (s : Shared) (H : Hp) (args : Args) (us : List Value) (vs : List V) (Q : VK) (E : XK),
    A.guards = some [] → Room k A → Env0 P w K mg base A outer s H → BindsTo s fd args (ps.zip us) → Vals vs us → sp vs H Q E → codeAny (model P w) A (.call (.ref f) args) (CR CX outer P w H s Q E) s
theorem GFn.mono {P : Program} {w : World} {K : PySem.W.Frag} {mg : Str → Option Value} {base : Heap} {CX : CXT} {j k : Nat} {f : Addr} {fd : FuncData} {ps : List Str} {sp : Sp} (F : GFn P w K mg base CX j f fd ps sp) (h : j ≤ k) : GFn P w K mg base CX k f fd ps sp where
  len := F.len
  go := fun A outer s H args us vs Q E g r => F.go A outer s H args us vs Q E g (r.mono h)

section
variable {P : Program} {w : World} {K : PySem.W.Frag} {mg : Str → Option Value} {base : Heap}
/-- a def of the text keeps its promise by its body -/
theorem gfn_of {CX : CXT} {k : Nat} {f : Addr} {fd : FuncData} {x qual : Str} {st : Stmt} {N ps : List Str} {sp : Sp} (F : Fun K x qual st f fd) (S : FnScope N ps (defScope st)) (len : ∀ vs H Q E, sp vs H Q E → vs.length = ps.length)
    (body : ∀ (cdv : Value) (A : Around) (outer : List Env) (s : Shared) (H : Hp) (vs : List V) (Q : VK) (E : XK), A.guards = some [] → Room k (A.deeper (envOfC qual (defScope st) s.heap.objs.size f cdv)) → sp vs H Q E →
      ∃ t, PSs (cxOf CX P w K mg base N qual (defScope st) f cdv A outer s H E) (defBody st) t ∧ t { nx := fun _ H' => Q .non H', rt := Q } (L2.start N vs) H) : GFn P w K mg base CX (k + 1) f fd ps sp := by
  obtain ⟨oc, od, kV, doc, pm, an, cdv, ct, osl, rfl, lk, hcd⟩ := F.ex
  constructor
  · exact len
  intro A outer s H args us vs Q E hg hr e0 hb rv hsp
  have stays : ∀ b o, base.get? b = some o → s.heap.get? b = some o := fun b o e => (e0.bs b o e).1
  have inK := e0.mod.kin.keeps stays
  have noL := e0.mod.nolimit.keeps stays
  have kinds : ∀ y ∈ ps.zip us, (defScope st).names.lookup y.1 = some .local ∨ ((defScope st).names.lookup y.1 = some .cell ∧ ((cellsFrom (s.heap.objs.size + 1) (defScope st).names []).lookup y.1).isSome = true) := by
    rintro ⟨n, v⟩ hy
    have hp := S.par n (List.of_mem_zip hy).1
    exact hp.imp (fun q => q) fun q => ⟨q, PySem.W.cellsFrom_some _ _ _ (.inl q)⟩
  refine codeAny_call_function hr.depth (inK _ _ lk) rfl S.co S.gen rfl (PySem.W.codeRec_of inK hcd) (hb _ _ _ _ ?_)
  refine wpAny_newFunctionEnv_cells S.kind kinds ?_
  rintro env rfl s1 x
  refine ⟨noL.keeps x.toInCall.keep, codeAny_func ?_⟩
  obtain ⟨t, ht, hq⟩ := body cdv A outer s H vs Q E hg (hr.deeper _) hsp
  have I := inv_start (N := N) (qual := qual) (scope := defScope st) (CX := CX) (E := E) S hr.hd e0 (len _ _ _ _ hsp) rv x
  refine wpAny_mono (ht.run [] s1 (L2.start N vs) H _ I hq) ?_ fun e s' hs => hs
  intro fl s' hs
  cases fl with
  | brk => obtain ⟨_, _, _, bad⟩ := hs; cases bad
  | cont => obtain ⟨_, _, _, bad⟩ := hs; cases bad
  | next =>
    obtain ⟨σ2, H2, J, q⟩ := hs
    exact ⟨.non, H2, J.os, J.bare, J.base, J.hok, rfl, q⟩
  | ret u =>
    obtain ⟨v, σ2, H2, J, r2, q⟩ := hs
    exact ⟨v, H2, J.os, J.bare, J.base, J.hok, r2, q⟩
end

/-- a promise over D -/
abbrev SpD := List D → Sto → QD → Prop
def spOf (K : PySem.W.Frag) (sp : SpD) : Sp := fun vs H Q _ => ∃ S ds, RepS K S H ∧ RepDs K S H ds vs ∧ sp ds S (up K S H Q)
structure DFn (P : Program) (w : World) (K : PySem.W.Frag) (mg : Str → Option Value) (base : Heap) (k : Nat) (f : Addr) (fd : FuncData) (ps : List Str) (sp : SpD) : Prop where
  mono : ∀ ds S (Q Q' : QD), (∀ d s, Q d s → Q' d s) → sp ds S Q → sp ds S Q'
  len : ∀ ds S Q, sp ds S Q → ds.length = ps.length
  fn : GFn P w K mg base CX0 k f fd ps (spOf K sp)
theorem DFn.up {P : Program} {w : World} {K : PySem.W.Frag} {mg : Str → Option Value} {base : Heap} {j k : Nat} {f : Addr} {fd : FuncData} {ps : List Str} {sp : SpD} (F : DFn P w K mg base j f fd ps sp) (h : j ≤ k) : DFn P w K mg base k f fd ps sp := ⟨F.mono, F.len, F.fn.mono h⟩
def envStart (N : List Str) (ds : List D) : Env' := ds.map some ++ List.replicate (N.length - ds.length) none
theorem rep_start {K : PySem.W.Frag} {S : Sto} {H : Hp} {N : List Str} {ds : List D} {vs : List V} (r : RepDs K S H ds vs) : RepEnv K S H (envStart N ds) (L2.start N vs) := by
  have hl := r.len
  unfold envStart L2.start
  refine ⟨by simp [hl], fun i d e => ?_⟩
  by_cases hi : i < ds.length
  · rw [List.getElem?_append_left (by simpa using hi), List.getElem?_map] at e
    rw [Option.map_eq_some_iff] at e
    obtain ⟨d', e1, e2⟩ := e
    cases e2
    obtain ⟨v, e3, rv⟩ := r.get e1
    exact ⟨v, by rw [List.getElem?_append_left (by simp; omega), List.getElem?_map, e3]; rfl, rv⟩
  · rw [List.getElem?_append_right (by simpa using hi), List.getElem?_replicate] at e
    split at e <;> cases e
/-- a def of the text, its promise by its body's reading -/
theorem dfn_of {P : Program} {w : World} {K : PySem.W.Frag} {mg : Str → Option Value} {base : Heap} {k : Nat} {f : Addr} {fd : FuncData} {x qual : Str} {st : Stmt} {N ps : List Str} {sp : SpD} (F : Fun K x qual st f fd) (Sc : FnScope N ps (defScope st))
    (mono : ∀ ds S (Q Q' : QD), (∀ d s, Q d s → Q' d s) → sp ds S Q → sp ds S Q') (len : ∀ ds S Q, sp ds S Q → ds.length = ps.length)
    (body : ∀ (cdv : Value) (A : Around) (outer : List Env) (s : Shared) (H : Hp), A.guards = some [] → Room k (A.deeper (envOfC qual (defScope st) s.heap.objs.size f cdv)) →
      ∃ t, DSs (cxOf CX0 P w K mg base N qual (defScope st) f cdv A outer s H E0).nox (defBody st) t ∧ ∀ ds S Q, sp ds S Q → t { nx := fun _ S' => Q .non S', rt := Q } (envStart N ds) S) : DFn P w K mg base (k + 1) f fd ps sp where
  mono := mono
  len := len
  fn := by
    refine gfn_of F Sc (fun vs H Q E h => ?_) fun cdv A outer s H vs Q E hg hr h => ?_
    · obtain ⟨S, ds, hs, r, q⟩ := h
      rw [← r.len]
      exact len _ _ _ q
    · obtain ⟨S, ds, hs, r, q⟩ := h
      obtain ⟨t, ht, hq⟩ := body cdv A outer s H hg hr
      refine ⟨_, PSs.nox (X := cxOf CX0 P w K mg base N qual (defScope st) f cdv A outer s H E) (pss_imp (t := liftS K t) ⟨fun pins s1 σ H1 D I q => ?_⟩ fun _ _ _ h => h), envStart N ds, S, rep_start r, hs, _, ?_, hq ds S _ q⟩
      · exact ht.run.run pins s1 σ H1 D I q
      · exact ⟨fun env S' σ H' h1 h2 h3 h4 => h4 .non H' .non h2 h3, fun d S' v H' h1 h2 h3 h4 => h4 v H' h1 h2 h3, fun _ _ _ _ _ _ _ h => h.elim, fun _ _ _ _ _ _ _ h => h.elim⟩

section
variable {X : Cx} {pos p : Pos} {x : Str} {e : Expr} {es : List Expr} {t : TAD} {k : Nat} {f : Addr} {fd : FuncData} {ps : List Str} {sp : SpD} {dds : List D} {dvs : List V} {ds : List Value}

/-! ### calls of defs -/
theorem run_gfn {CX : CXT} {E : XK} {sp : Sp} {pins : List (Addr × Obj)} {σ : L2.St} {H : Hp} {s : Shared} {Q : VK} {us : List Value} {vs : List V} (F : GFn X.prog X.w X.K X.mg X.base CX k f fd ps sp) (hg : X.A.guards = some []) (hr : Room k X.A) (hx : Passes CX X E)
    (I : Inv X pins σ H s) {args : Args} (hb : BindsTo s fd args (ps.zip us)) (r : Vals vs us) (h : sp vs H Q E) : codeAny (model X.prog X.w) X.A (.call (.ref f) args) (fun r s' => match r with
      | .ok (.ret u) => EP X pins σ Q u s'
      | .ok _ => False
      | .error e => X.xe e s') s := by
  refine codeAny_mono (F.go X.A X.stack s H args us vs Q E hg hr I.env0 hb r h) ?_
  intro r s' hq
  match r, hq with
  | .error e, hq => exact hx pins σ H s e s' I hq
  | .ok (.ret u), hq => exact I.after hq
  | .ok .next, hq => exact hq
  | .ok .brk, hq => exact hq
  | .ok .cont, hq => exact hq
def tdCall (sp : SpD) (dds : List D) (t : TAD) : TED := fun env S Q => t env S fun ds S1 => sp (ds ++ dds) S1 Q
theorem liftCall {sp : SpD} (hm : ∀ ds S (Q Q' : QD), (∀ d s, Q d s → Q' d s) → sp ds S Q → sp ds S Q') {es : List Expr} {t : TAD} (ha : DA X es t) (hdd : ∀ S H, RepDs X.K S H dds dvs) {σ : L2.St} {H : Hp} {Q : VK} (q : liftE X.K (tdCall sp dds t) σ H Q) :
    liftA X.K t σ H fun vs H1 => spOf X.K sp (vs ++ dvs) H1 Q E0 := by
  obtain ⟨env, S, he, hs, q⟩ := q
  exact ⟨env, S, he, hs, ha.mono _ _ _ _ (fun ds S1 q1 vs H1 r1 s1 e1 => ⟨S1, ds ++ dds, s1, r1.append (hdd S1 H1), hm _ _ _ _ (fun d s h => up_ext e1 h) q1⟩) q⟩
theorem de_call (F : DFn X.prog X.w X.K X.mg X.base k f fd ps sp) (hgd : X.A.guards = some []) (hr : Room k X.A) (hg : Gl X x) (hm : X.mg x = some (.ref f)) (hk : PySem.W.keepIn X.K (.ref f) = true) (hb : Binds X.K fd ps ds) (hd : Vals dvs ds) (hdd : ∀ S H, RepDs X.K S H dds dvs)
    (ha : DA X (e :: es) t) (hdb : (x == ("__debug__" : Str)) = false := by decide) (he : starEach (e :: es) X.env = (false, eval e X.env) :: starEach es X.env := by rfl) (hpl : (backTo pos (starEach es X.env)).any (·.1) = false := by rfl) : DE X (.Call (.Name x p) (e :: es) [] pos) (tdCall sp dds t) where
  mono := fun env S Q Q' h q => ha.mono _ _ _ _ (fun ds s q => F.mono _ _ _ _ h q) q
  run := ⟨fun pins s σ H Q I q => by
    refine wpAny_Call_Name_kw (ld_glob I hg hm ?_ hdb)
    refine PySem.W.callWith_K (h₀ := X.base) I.ok.mod.kin hk (thn (ha.run.run pos pins s σ H _ I (liftCall F.mono ha hdd q)) ?_) he hpl
    rintro us s1 ⟨vs, H1, I1, rv, q2⟩
    refine ⟨I1.kIn, ?_⟩
    have rv2 : Vals (vs ++ dvs) (us ++ ds) := rv.append hd
    have hl : (us ++ ds).length = ps.length := by rw [← rv2.length]; exact F.fn.len _ _ _ _ q2
    refine wpAny_call (codeAny_mono (run_gfn F.fn hgd hr pass0 I1 (hb s1 us I1.kIn hl) rv2 q2) ?_)
    intro r s' hq
    match r, hq with
    | .error e, hq => exact hq
    | .ok (.ret u), hq => exact hq
    | .ok .next, hq => exact hq.elim
    | .ok .brk, hq => exact hq.elim
    | .ok .cont, hq => exact hq.elim⟩
end
end PL

namespace PL
open PySem PySem.Spec PyProof.Rows L2

section
variable {X : Cx} {pos p : Pos} {x : Str} {e o : Expr} {es : List Expr} {te to : TED} {t tk : TAD} {k : Nat} {f : Addr} {fd : FuncData} {ps : List Str} {sp : SpD} {dds : List D} {dvs : List V} {ds : List Value}

/-! ### calls without arguments, with keywords -/
theorem de_call0 (F : DFn X.prog X.w X.K X.mg X.base k f fd ps sp) (hgd : X.A.guards = some []) (hr : Room k X.A) (hg : Gl X x) (hm : X.mg x = some (.ref f)) (hk : PySem.W.keepIn X.K (.ref f) = true) (hb : Binds X.K fd ps ds) (hd : Vals dvs ds) (hdd : ∀ S H, RepDs X.K S H dds dvs)
    (hdb : (x == ("__debug__" : Str)) = false := by decide) : DE X (.Call (.Name x p) [] [] pos) (tdCall sp dds tdNil) where
  mono := fun env S Q Q' h q => F.mono _ _ _ _ h q
  run := ⟨fun pins s σ H Q I ⟨env, S, hev, hst, q⟩ => by
    refine wpAny_Call_Name_kw (ld_glob I hg hm ?_ hdb)
    refine PySem.W.callWith_K0 I.kIn hk ?_
    have q2 : spOf X.K sp dvs H Q E0 := ⟨S, dds, hst, hdd S H, q⟩
    have hl : (([] : List Value) ++ ds).length = ps.length := by rw [List.nil_append, ← hd.length]; exact F.fn.len _ _ _ _ q2
    refine wpAny_call (codeAny_mono (run_gfn (us := [] ++ ds) (vs := dvs) F.fn hgd hr pass0 I (hb s [] I.kIn hl) hd q2) ?_)
    intro r s' hq
    match r, hq with
    | .error e, hq => exact hq
    | .ok (.ret u), hq => exact hq
    | .ok .next, hq => exact hq.elim
    | .ok .brk, hq => exact hq.elim
    | .ok .cont, hq => exact hq.elim⟩
def pick {α : Type} (pm : List Nat) (l : List α) : List α := pm.filterMap fun i => l[i]?
theorem pick_vals {vs : List V} {us : List Value} (r : Vals vs us) : ∀ pm : List Nat, Vals (pick pm vs) (pick pm us)
  | [] => .nil
  | i :: pm => by
    unfold pick
    rw [List.filterMap_cons, List.filterMap_cons]
    cases e : vs[i]? with
    | none =>
      rw [r.none_of e]
      exact pick_vals r pm
    | some v =>
      obtain ⟨u, e2, r2⟩ := r.get e
      rw [e2]
      exact .cons r2 (pick_vals r pm)
theorem pick_rep {K : PySem.W.Frag} {S : Sto} {H : Hp} {ds : List D} {vs : List V} (r : RepDs K S H ds vs) : ∀ pm : List Nat, RepDs K S H (pick pm ds) (pick pm vs)
  | [] => .nil
  | i :: pm => by
    unfold pick
    rw [List.filterMap_cons, List.filterMap_cons]
    cases e : ds[i]? with
    | none =>
      have e2 : vs[i]? = none := by
        have h1 := r.len
        have h2 := List.getElem?_eq_none_iff.mp e
        exact List.getElem?_eq_none_iff.mpr (by omega)
      rw [e2]
      exact pick_rep r pm
    | some d =>
      obtain ⟨u, e2, r2⟩ := r.get e
      rw [e2]
      exact .cons r2 (pick_rep r pm)
/-- how n positional values and the keywords ks come to the parameters: by the places pm in both and the defaults -/
def KB (K : PySem.W.Frag) (fd : FuncData) (ps : List Str) (n : Nat) (ks : List Str) (pm : List Nat) (ds : List Value) : Prop :=
  ∀ (s : Shared) (us ws : List Value), K.In s.heap → us.length = n → ws.length = ks.length → BindsTo s fd ⟨us, ks.zip ws⟩ (ps.zip (pick pm (us ++ ws ++ ds)))
structure DK (X : Cx) (kws : List Keyword) (t : TAD) : Prop where
  mono : ∀ env S (Q Q' : List D → Sto → Prop), (∀ d s, Q d s → Q' d s) → t env S Q → t env S Q'
  run : PK X kws (liftA X.K t)
theorem pk_imp {kws : List Keyword} {t t' : TA} (h : PK X kws t) (i : ∀ σ H Q, t' σ H Q → t σ H Q) : PK X kws t' := ⟨fun pos pins s σ H Q I q => h.run pos pins s σ H Q I (i σ H Q q)⟩
theorem dk_nil : DK X [] tdNil where
  mono := fun env S Q Q' h q => h _ _ q
  run := pk_imp pk_nil fun σ H Q ⟨env, S, he, hs, q⟩ => q [] H .nil hs Ext.refl
theorem dk_cons {nm : Option Str} {kpos : Pos} {kws : List Keyword} (ha : DE X e te) (hr : DK X kws t) : DK X (⟨nm, e, kpos⟩ :: kws) (tdCons te t) where
  mono := fun env S Q Q' h q => ha.mono _ _ _ _ (fun x s q => hr.mono _ _ _ _ (fun xs s q => h _ _ q) q) q
  run := pk_imp (pk_cons ha.run hr.run) fun σ H Q ⟨env, S, he, hs, q⟩ => ⟨env, S, he, hs, ha.mono _ _ _ _ (fun x S1 q1 v1 H1 r1 s1 e1 =>
    ⟨env, S1, he.ext e1, s1, hr.mono _ _ _ _ (fun xs S2 q2 vs H2 r2 s2 e2 => q2 (v1 :: vs) H2 (.cons (r1.ext e2) r2) s2 (e1.trans e2)) q1⟩) q⟩
def tdCallK (sp : SpD) (n m : Nat) (pm : List Nat) (dds : List D) (t tk : TAD) : TED := fun env S Q => t env S fun ds S1 => tk env S1 fun zs S2 => ds.length = n ∧ zs.length = m ∧ sp (pick pm (ds ++ zs ++ dds)) S2 Q
theorem callK_end {pm : List Nat} {ks : List Str} {pins : List (Addr × Obj)} {σ : L2.St} {H H2 : Hp} {s2 : Shared} {Q : VK} {us ws : List Value} {vs zs : List V} {S2 : Sto} {dss zss : List D}
    (F : DFn X.prog X.w X.K X.mg X.base k f fd ps sp) (hgd : X.A.guards = some []) (hr : Room k X.A) (hb : KB X.K fd ps dss.length ks pm ds) (hd : Vals dvs ds) (hdd : ∀ S H, RepDs X.K S H dds dvs) (hz : zss.length = ks.length)
    (I : Inv X pins σ H2 s2) (hst : RepS X.K S2 H2) (r1 : RepDs X.K S2 H2 dss vs) (r2 : RepDs X.K S2 H2 zss zs) (rv : Vals vs us) (rz : Vals zs ws) (q : sp (pick pm (dss ++ zss ++ dds)) S2 (PL.up X.K S2 H2 Q)) :
    wpAny (model X.prog X.w) X.A (call (.ref f) us (ks.zip ws)) (EP X pins σ Q) X.xe s2 := by
  have rr : RepDs X.K S2 H2 (pick pm (dss ++ zss ++ dds)) (pick pm (vs ++ zs ++ dvs)) := pick_rep ((r1.append r2).append (hdd S2 H2)) pm
  have q2 : spOf X.K sp (pick pm (vs ++ zs ++ dvs)) H2 Q E0 := ⟨S2, _, hst, rr, q⟩
  have rp := pick_vals ((rv.append rz).append hd) pm
  refine wpAny_call (codeAny_mono (run_gfn F.fn hgd hr pass0 I (hb s2 us ws I.kIn (by rw [← rv.length, ← r1.len]) (by rw [← rz.length, ← r2.len, hz])) rp q2) ?_)
  intro r s' hq
  match r, hq with
  | .error e, hq => exact hq
  | .ok (.ret u), hq => exact hq
  | .ok .next, hq => exact hq.elim
  | .ok .brk, hq => exact hq.elim
  | .ok .cont, hq => exact hq.elim
theorem de_callK {n : Nat} {ks : List Str} {pm : List Nat} {kws : List Keyword} (F : DFn X.prog X.w X.K X.mg X.base k f fd ps sp) (hgd : X.A.guards = some []) (hr : Room k X.A) (hg : Gl X x) (hm : X.mg x = some (.ref f)) (hk : PySem.W.keepIn X.K (.ref f) = true)
    (hb : KB X.K fd ps n ks pm ds) (hd : Vals dvs ds) (hdd : ∀ S H, RepDs X.K S H dds dvs) (ha : DA X (e :: es) t) (hkw : DK X kws tk) (hall : (backToKw pos (keywordEach kws X.env)).all (·.1.isSome) = true := by rfl) (hks : (backToKw pos (keywordEach kws X.env)).filterMap (·.1) = ks := by rfl)
    (hdb : (x == ("__debug__" : Str)) = false := by decide) (he : starEach (e :: es) X.env = (false, eval e X.env) :: starEach es X.env := by rfl)
    (hpl : ((backTo pos (starEach (e :: es) X.env)).any (·.1) || (backToKw pos (keywordEach kws X.env)).any (·.1.isNone)) = false := by rfl) : DE X (.Call (.Name x p) (e :: es) kws pos) (tdCallK sp n ks.length pm dds t tk) where
  mono := fun env S Q Q' h q => ha.mono _ _ _ _ (fun ds s q => hkw.mono _ _ _ _ (fun zs s q => ⟨q.1, q.2.1, F.mono _ _ _ _ h q.2.2⟩) q) q
  run := ⟨fun pins s σ H Q I ⟨env, S, hev, hst, q⟩ => by
    refine wpAny_Call_Name_kw (ld_glob I hg hm ?_ hdb)
    have A1 : liftA X.K t σ H fun vs H1 => liftA X.K tk σ H1 fun zs H2 => ∃ S2 dss zss, RepS X.K S2 H2 ∧ RepDs X.K S2 H2 dss vs ∧ RepDs X.K S2 H2 zss zs ∧ dss.length = n ∧ zss.length = ks.length ∧ sp (pick pm (dss ++ zss ++ dds)) S2 (PL.up X.K S2 H2 Q) :=
      ⟨env, S, hev, hst, ha.mono _ _ _ _ (fun dss S1 q1 vs H1 r1 s1 e1 => ⟨env, S1, hev.ext e1, s1, hkw.mono _ _ _ _ (fun zss S2 q2 zs H2 r2 s2 e2 => ⟨S2, dss, zss, s2, r1.ext e2, r2, q2.1, q2.2.1, F.mono _ _ _ _ (fun d s h => up_ext (e1.trans e2) h) q2.2.2⟩) q1⟩) q⟩
    refine PySem.W.callWith_KW (h₀ := X.base) I.ok.mod.kin hk hall (thn (ha.run.run pos pins s σ H _ I A1) ?_) hpl he
    rintro us s1 ⟨vs, H1, I1, rv, q1⟩
    refine thn (hkw.run.run pos pins s1 σ H1 _ I1 q1) ?_
    rintro ws s2 ⟨zs, H2, I2, rz, S2, dss, zss, hs2, r1, r2, hn, hm, q2⟩
    refine ⟨I2.kIn, ?_⟩
    rw [hks]
    subst hn
    exact callK_end (H := H) F hgd hr hb hd hdd hm I2 hs2 r1 r2 rv rz q2⟩
theorem de_callK0 {ks : List Str} {pm : List Nat} {kws : List Keyword} (F : DFn X.prog X.w X.K X.mg X.base k f fd ps sp) (hgd : X.A.guards = some []) (hr : Room k X.A) (hg : Gl X x) (hm : X.mg x = some (.ref f)) (hk : PySem.W.keepIn X.K (.ref f) = true)
    (hb : KB X.K fd ps 0 ks pm ds) (hd : Vals dvs ds) (hdd : ∀ S H, RepDs X.K S H dds dvs) (hkw : DK X kws tk) (hall : (backToKw pos (keywordEach kws X.env)).all (·.1.isSome) = true := by rfl) (hks : (backToKw pos (keywordEach kws X.env)).filterMap (·.1) = ks := by rfl)
    (hdb : (x == ("__debug__" : Str)) = false := by decide)
    (hpl : ((backTo pos (starEach [] X.env)).any (·.1) || (backToKw pos (keywordEach kws X.env)).any (·.1.isNone)) = false := by rfl) : DE X (.Call (.Name x p) [] kws pos) (tdCallK sp 0 ks.length pm dds tdNil tk) where
  mono := fun env S Q Q' h q => hkw.mono _ _ _ _ (fun zs s q => ⟨q.1, q.2.1, F.mono _ _ _ _ h q.2.2⟩) q
  run := ⟨fun pins s σ H Q I ⟨env, S, hev, hst, q⟩ => by
    refine wpAny_Call_Name_kw (ld_glob I hg hm ?_ hdb)
    have A1 : liftA X.K tk σ H fun zs H2 => ∃ S2 zss, RepS X.K S2 H2 ∧ RepDs X.K S2 H2 zss zs ∧ zss.length = ks.length ∧ sp (pick pm ([] ++ zss ++ dds)) S2 (PL.up X.K S2 H2 Q) :=
      ⟨env, S, hev, hst, hkw.mono _ _ _ _ (fun zss S2 q2 zs H2 r2 s2 e2 => ⟨S2, zss, s2, r2, q2.2.1, F.mono _ _ _ _ (fun d s h => up_ext e2 h) q2.2.2⟩) q⟩
    refine PySem.W.callWith_KW0 (h₀ := X.base) I.ok.mod.kin hk hall (thn (hkw.run.run pos pins s σ H _ I A1) ?_) hpl
    rintro ws s2 ⟨zs, H2, I2, rz, S2, zss, hs2, r2, hm, q2⟩
    refine ⟨I2.kIn, ?_⟩
    rw [hks]
    exact callK_end (H := H) (dss := []) (vs := []) F hgd hr hb hd hdd hm I2 hs2 .nil r2 .nil rz q2⟩

/-! ### methods of lists of the store -/
def lstAt (S : Sto) (a : Addr) : Option (List D) := match S a with
  | some (.lst ds) => some ds
  | _ => none
theorem lstAt_some {S : Sto} {a : Addr} {ds : List D} (h : lstAt S a = some ds) : S a = some (.lst ds) := by
  unfold lstAt at h
  split at h
  · rename_i e; cases h; exact e
  · cases h
theorem sto_lst {K : PySem.W.Frag} {S : Sto} {H : Hp} {a : Addr} {ds : List D} (hs : RepS K S H) (e : S a = some (.lst ds)) : ∃ vs, H a = some (.lst vs) ∧ RepDs K S H ds vs := by
  obtain ⟨u, h1, h2⟩ := hs a _ e
  cases h2 with
  | lst r => exact ⟨_, h1, r⟩
/-- what a method makes of the list and its arguments: a condition, the list behind, the answer -/
abbrev LM := Sto → List D → List D → Option (Prop × List D × D)
def lmEnd (g : LM) (a : Addr) (args : List D) (S : Sto) (Q : QD) : Prop := match lstAt S a with
  | some ds => match g S ds args with
    | some p => p.1 ∧ Q p.2.2 (sup S a (.lst p.2.1))
    | none => False
  | none => False
theorem lmEnd_mono {g : LM} {a : Addr} {args : List D} {S : Sto} {Q Q' : QD} (h : ∀ d s, Q d s → Q' d s) (q : lmEnd g a args S Q) : lmEnd g a args S Q' := by
  unfold lmEnd at q ⊢
  split at q
  · split at q
    · exact ⟨q.1, h _ _ q.2⟩
    · exact q.elim
  · exact q.elim
def lmObj (x : D) (S : Sto) (k : Addr → Prop) : Prop := match x with
  | .ref a => (lstAt S a).isSome = true ∧ k a
  | _ => False
def tdLm (g : LM) (to : TED) (ta : TAD) : TED := fun env S Q => to env S fun x S1 => lmObj x S1 fun a => ta env S1 fun args S2 => lmEnd g a args S2 Q
def rLm (K : PySem.W.Frag) (g : LM) : V → List V → Hp → VK → Prop := fun vx vs H Q => ∃ S a args, RepS K S H ∧ vx = .ref a ∧ RepDs K S H args vs ∧ lmEnd g a args S (PL.up K S H Q)
theorem tdLm_mono {g : LM} (ho : DE X o to) (m : ∀ env S (Q Q' : List D → Sto → Prop), (∀ d s, Q d s → Q' d s) → t env S Q → t env S Q') : ∀ env S (Q Q' : QD), (∀ d s, Q d s → Q' d s) → tdLm g to t env S Q → tdLm g to t env S Q' :=
  fun env S Q Q' h q => ho.mono _ _ _ _ (fun x s q => by
    unfold lmObj at q ⊢
    split at q
    · exact ⟨q.1, m _ _ _ _ (fun args s q => lmEnd_mono h q) q.2⟩
    · exact q.elim) q
theorem lm_run {g : LM} {T : String} (hT : T = "list") (ho : DE X o to) (m : ∀ env S (Q Q' : List D → Sto → Prop), (∀ d s, Q d s → Q' d s) → t env S Q → t env S Q') {σ : L2.St} {H : Hp} {Q : VK} (q : liftE X.K (tdLm g to t) σ H Q) :
    tBM X.K T (rLm X.K g) (liftE X.K to) (liftA X.K t) σ H Q := by
  obtain ⟨env, S, hev, hst, q⟩ := q
  refine ⟨env, S, hev, hst, ho.mono _ _ _ _ (fun x S1 q v1 H1 r1 s1 e1 => ?_) q⟩
  unfold lmObj at q
  split at q
  · rename_i a
    cases r1
    obtain ⟨q0, q⟩ := q
    obtain ⟨ds, hd⟩ := Option.isSome_iff_exists.mp q0
    obtain ⟨vs, h1, _⟩ := sto_lst s1 (lstAt_some hd)
    refine ⟨.inl ⟨hT, _, .inl (.inl h1)⟩, env, S1, hev.ext e1, s1, m _ _ _ _ (fun args S2 q2 v2 H2 r2 s2 e2 => ?_) q⟩
    exact ⟨S2, a, args, s2, rfl, r2, lmEnd_mono (fun d s h => up_ext (e1.trans e2) h) q2⟩
  · exact q.elim
theorem de_lm {g : LM} {name : Str} {id : String} {apos : Pos} (slot : Slot "list" name id) (hty : typeOf (.builtin id) = pure (.type "method_descriptor")) (hm : MtR X id (rLm X.K g)) (ho : DE X o to) (ha : DA X (e :: es) t)
    (hbase : attributeBase o name X.env (eval o X.env) = eval o X.env := by rfl)
    (hfew : ((backTo pos (starEach (e :: es) X.env)).all (fun x => !x.1) && (backToKw pos (keywordEach [] X.env)).all (fun x => x.1.isSome)
      && decide ((e :: es).length + ([] : List Keyword).length + (if ([] : List Keyword).isEmpty then 0 else 1) < 30)) = true := by rfl)
    (hline : (apos.endLine == pos.line) = true := by rfl) (hs : starEach (e :: es) X.env = (false, eval e X.env) :: starEach es X.env := by rfl) (hplain : (backTo pos (starEach es X.env)).any (·.1) = false := by rfl) :
    DE X (.Call (.Attribute o name apos) (e :: es) [] pos) (tdLm g to t) where
  mono := tdLm_mono ho ha.mono
  run := pe_imp (pe_bm PySem.F.plainAttrs_list slot hty hm ho.run ha.run hbase hfew hline hs hplain) fun σ H Q q => lm_run rfl ho ha.mono q
theorem de_lm0 {g : LM} {name : Str} {id : String} {apos : Pos} (slot : Slot "list" name id) (hty : typeOf (.builtin id) = pure (.type "method_descriptor")) (hm : MtR X id (rLm X.K g)) (ho : DE X o to)
    (hbase : attributeBase o name X.env (eval o X.env) = eval o X.env := by rfl) (hline : (apos.endLine == pos.line) = true := by rfl) : DE X (.Call (.Attribute o name apos) [] [] pos) (tdLm g to tdNil) where
  mono := tdLm_mono ho (da_nil (X := X)).mono
  run := pe_imp (pe_bm0 PySem.F.plainAttrs_list slot hty hm ho.run hbase hline) fun σ H Q q => by
    obtain ⟨env, S, he, hs, q2⟩ := lm_run rfl ho (da_nil (X := X)).mono q
    refine ⟨env, S, he, hs, ho.mono _ _ _ _ (fun x S1 q3 v1 H1 r1 s1 e1 => ?_) q2⟩
    obtain ⟨h1, env2, S2, _, hs2, q4⟩ := q3 v1 H1 r1 s1 e1
    exact ⟨h1, q4 [] H1 .nil hs2 Ext.refl⟩
theorem lmEnd_inv {g : LM} {a : Addr} {args : List D} {S : Sto} {Q : QD} (q : lmEnd g a args S Q) : ∃ ds c ds' r, S a = some (.lst ds) ∧ g S ds args = some (c, ds', r) ∧ c ∧ Q r (sup S a (.lst ds')) := by
  unfold lmEnd at q
  split at q
  · rename_i ds e
    split at q
    · rename_i p e2
      exact ⟨ds, p.1, p.2.1, p.2.2, lstAt_some e, e2, q.1, q.2⟩
    · exact q.elim
  · exact q.elim
def gAppend : LM := fun _ ds args => match args with
  | [d] => some (ds.length < sizeLine, ds ++ [d], .non)
  | _ => none
theorem mtd_append : MtR X "list.append" (rLm X.K gAppend) := fun pins s σ H vx vs v us Q I rx rv ⟨S, a, args, hs, ex, r, q⟩ => by
  obtain ⟨ds, c, ds', rr, e1, e2, hc, q⟩ := lmEnd_inv q
  unfold gAppend at e2
  split at e2
  · cases e2
    subst ex
    obtain ⟨w, rfl, rw'⟩ := r.one_inv
    obtain ⟨ws, h1, rl⟩ := sto_lst hs e1
    exact mt_append pins s σ H _ _ v us Q I rx rv ⟨a, ws, w, rfl, rfl, h1, by rw [← rl.len]; exact hc, q .non _ .non (hs.write e1 (.lst (rl.append (RepDs.one rw')))) (Ext.write e1)⟩
  · cases e2
def gExtend : LM := fun S ds args => match args with
  | [x] => match getL S x with
    | some es => some (ds.length + es.length ≤ sizeLine, ds ++ es, .non)
    | none => none
  | _ => none
theorem mtd_extend : MtR X "list.extend" (rLm X.K gExtend) := fun pins s σ H vx vs v us Q I rx rv ⟨S, a, args, hs, ex, r, q⟩ => by
  obtain ⟨ds, c, ds', rr, e1, e2, hc, q⟩ := lmEnd_inv q
  unfold gExtend at e2
  split at e2
  · split at e2
    · rename_i es eg
      cases e2
      subst ex
      obtain ⟨w, rfl, rw'⟩ := r.one_inv
      obtain ⟨b, us', rfl, hb, rb⟩ := getL_rep hs rw' eg
      obtain ⟨ws, h1, rl⟩ := sto_lst hs e1
      exact mt_extend pins s σ H _ _ v us Q I rx rv ⟨a, b, ws, us', rfl, rfl, h1, hb, by rw [← rl.len, ← rb.len]; exact hc, q .non _ .non (hs.write e1 (.lst (rl.append rb))) (Ext.write e1)⟩
    · cases e2
  · cases e2
def gPop : LM := fun _ ds args => match args with
  | [] => match ds[ds.length - 1]? with
    | some d => some (True, ds.dropLast, d)
    | none => none
  | _ => none
theorem mtd_pop : MtR X "list.pop" (rLm X.K gPop) := fun pins s σ H vx vs v us Q I rx rv ⟨S, a, args, hs, ex, r, q⟩ => by
  obtain ⟨ds, c, ds', rr, e1, e2, hc, q⟩ := lmEnd_inv q
  unfold gPop at e2
  split at e2
  · split at e2
    · rename_i d ed
      cases e2
      subst ex
      cases r
      obtain ⟨ws, h1, rl⟩ := sto_lst hs e1
      obtain ⟨w, ew, rw'⟩ := rl.get ed
      exact mt_pop pins s σ H _ _ v us Q I rx rv ⟨a, ws, w, rfl, rfl, h1, by rw [← rl.len]; exact ew, q _ _ (rw'.ext (Ext.write e1)) (hs.write e1 (.lst rl.dropLast)) (Ext.write e1)⟩
    · cases e2
  · cases e2

/-! ### what is walked -/
variable {tg : Expr}
theorem yields_list {K : PySem.W.Frag} {S : Sto} {H : Hp} {a : Addr} {vs : List V} {ds : List D} (n : S a = none) (h : H a = some (.lst vs)) (r : RepDs K S H ds vs) : Yields K S H (Itl K a) ds where
  go := fun S' H' e hs i d ed => by
    obtain ⟨v, ev, rv⟩ := r.get ed
    have h2 : SqL K H' a vs := .inl (.inl (e a _ n h).1)
    refine ⟨⟨vs, v, h2, ev⟩, ?_⟩
    rintro x H'' ⟨rfl, hx⟩
    have := hx vs h2
    rw [ev] at this; cases this
    exact ⟨rv.ext e, hs, Ext.refl⟩
  stop := fun S' H' e hs => ⟨vs, .inl (.inl (e a _ n h).1), by rw [← r.len]; exact Nat.le_refl _⟩
theorem yields_tup {K : PySem.W.Frag} {S : Sto} {H : Hp} {a : Addr} {vs : List V} {ds : List D} (h : RT K S H a vs) (r : RepDs K S H ds vs) : Yields K S H (Itt K a) ds where
  go := fun S' H' e hs i d ed => by
    obtain ⟨v, ev, rv⟩ := r.get ed
    have h2 : SqT K H' a vs := (h.ext e).sq
    refine ⟨⟨vs, v, h2, ev⟩, ?_⟩
    rintro x H'' ⟨rfl, hx⟩
    have := hx vs h2
    rw [ev] at this; cases this
    exact ⟨rv.ext e, hs, Ext.refl⟩
  stop := fun S' H' e hs => ⟨vs, (h.ext e).sq, by rw [← r.len]; exact Nat.le_refl _⟩
/-- a list or a tuple that is a value -/
def seqV : D → Option (List D)
  | .lst ds => some ds
  | .tup ds => some ds
  | _ => none
def tdSeqI (te : TED) : TID := fun env S Q => te env S fun d S1 => match seqV d with
  | some ds => Q ds S1
  | none => False
theorem di_seq (he : DE X e te) : DI X tg e (tdSeqI te) where
  mono := fun env S Q Q' h q => he.mono _ _ _ _ (fun d s q => by
    split at q
    · exact h _ _ q
    · exact q.elim) q
  run := ⟨fun pins s σ H R I ⟨env, S, hev, hst, q⟩ => by
    refine thn (he.run.run pins s σ H (fun v H1 => ∃ d S1 ds, RepD X.K S1 H1 d v ∧ RepS X.K S1 H1 ∧ Ext S H S1 H1 ∧ seqV d = some ds ∧ ∀ J H', Yields X.K S1 H' J ds → RepS X.K S1 H' → Ext S H S1 H' → R J H') I ⟨env, S, hev, hst, he.mono _ _ _ _ (fun d S1 q v H1 r1 s1 e1 => ?_) q⟩) ?_
    · split at q
      · rename_i ds ed
        exact ⟨d, S1, ds, r1, s1, e1, ed, q⟩
      · exact q.elim
    · rintro u s1 ⟨v, H1, I1, rv, d, S1, ds, r1, hs1, e1, ed, q1⟩
      -- the iterator is a new object, out of what is tracked
      have young : ∀ b : Addr, b ∈ [s1.heap.objs.size] → FpOk X pins H1 b := by
        intro b hb
        rw [List.mem_singleton] at hb
        rw [hb]
        exact I1.fpOk (Nat.le_refl _) (I1.hok.fresh (Nat.le_refl _))
      unfold seqV at ed
      split at ed
      · cases ed
        cases r1 with
        | lst n h r =>
          cases rv
          obtain ⟨its, _, pl, _⟩ := I1.list (SqL.of (K := X.K) h)
          refine wpAny_pyIter_list pl.isList ?_
          exact ⟨s1.heap.objs.size, [s1.heap.objs.size], _, Itl X.K _, H1, rfl, I1.kept (t' := s1.toks) fun b o e => Heap.get?_push_of_some _ e, turn_list _ _, ⟨_, Heap.get?_push_size _ rfl, rfl, rfl⟩, young, q1 _ H1 (yields_list n h r) hs1 e1⟩
      · cases ed
        cases r1 with
        | tup h r =>
          cases rv
          obtain ⟨its, _, pl, _⟩ := I1.tuple h.sq
          refine wpAny_pyIter_tuple (items := its.toArray) pl ?_
          exact ⟨s1.heap.objs.size, [s1.heap.objs.size], _, Itt X.K _, H1, rfl, I1.kept (t' := s1.toks) fun b o e => Heap.get?_push_of_some _ e, turn_tuple _ _, ⟨_, Heap.get?_push_size _ rfl, rfl, rfl⟩, young, q1 _ H1 (yields_tup h r) hs1 e1⟩
      · cases ed⟩
/-- range(n), range(a, b) -/
def upto (lo : Int) (n : Nat) : List D := (List.range n).map fun i : Nat => D.int (lo + i)
theorem yields_range {K : PySem.W.Frag} {S : Sto} {H : Hp} {lo : Int} {n : Nat} : Yields K S H (Itr lo n) (upto lo n) where
  go := fun S' H' e hs i d ed => by
    have hi : i < n := by
      have := (List.getElem?_eq_some_iff.mp ed).1
      unfold upto at this
      simpa using this
    have e2 : d = .int (lo + i) := by
      unfold upto at ed
      rw [List.getElem?_map, List.getElem?_range hi] at ed
      exact (Option.some.inj ed).symm
    refine ⟨hi, ?_⟩
    rintro x H'' ⟨rfl, rfl⟩
    rw [e2]
    exact ⟨.int _, hs, Ext.refl⟩
  stop := fun S' H' e hs => by
    show n ≤ (upto lo n).length
    unfold upto
    simp
def rng1 (j : Int) : Prop := -(2 ^ 62) ≤ j ∧ j < 2 ^ 62
def tdRng1 (ta : TAD) : TID := fun env S Q => ta env S fun ds S1 => match ds with
  | [.int j] => rng1 j ∧ Q (upto 0 j.toNat) S1
  | _ => False
def tdRng2 (ta : TAD) : TID := fun env S Q => ta env S fun ds S1 => match ds with
  | [.int i, .int j] => (rng1 i ∧ rng1 j) ∧ Q (upto i (j - i).toNat) S1
  | _ => False
theorem di_range1 {a : Expr} {p pos : Pos} (hg : Gl X "range") (hm : X.mg "range" = none) (ha : DA X [a] t) (hs : starEach [a] X.env = [(false, eval a X.env)] := by rfl) : DI X tg (.Call (.Name "range" p) [a] [] pos) (tdRng1 t) where
  mono := fun env S Q Q' h q => ha.mono _ _ _ _ (fun d s q => by
    split at q
    · exact ⟨q.1, h _ _ q.2⟩
    · exact q.elim) q
  run := pi_imp (pi_range1 hg hm ha.run hs) fun σ H R ⟨env, S, hev, hst, q⟩ => ⟨env, S, hev, hst, ha.mono _ _ _ _ (fun ds S1 q vs H1 r s1 e1 => by
    split at q
    · obtain ⟨v, rfl, r1⟩ := r.one_inv
      cases r1
      exact ⟨_, rfl, q.1.1, q.1.2, q.2 _ H1 yields_range s1 e1⟩
    · exact q.elim) q⟩
theorem di_range2 {a b : Expr} {p pos : Pos} (hg : Gl X "range") (hm : X.mg "range" = none) (ha : DA X [a, b] t) (hs : starEach [a, b] X.env = [(false, eval a X.env), (false, eval b X.env)] := by rfl) (hs2 : starEach [b] X.env = [(false, eval b X.env)] := by rfl) :
    DI X tg (.Call (.Name "range" p) [a, b] [] pos) (tdRng2 t) where
  mono := fun env S Q Q' h q => ha.mono _ _ _ _ (fun d s q => by
    split at q
    · exact ⟨q.1, h _ _ q.2⟩
    · exact q.elim) q
  run := pi_imp (pi_range2 hg hm ha.run hs hs2) fun σ H R ⟨env, S, hev, hst, q⟩ => ⟨env, S, hev, hst, ha.mono _ _ _ _ (fun ds S1 q vs H1 r s1 e1 => by
    split at q
    · obtain ⟨v, u, rfl, r1, r2⟩ := r.two_inv
      cases r1; cases r2
      exact ⟨_, _, rfl, ⟨q.1.1.1, q.1.1.2, q.1.2.1, q.1.2.2⟩, q.2 _ H1 yields_range s1 e1⟩
    · exact q.elim) q⟩
/-- zip of two lists, of two tuples that are values -/
def zipT : List D → List D → List D
  | x :: xs, y :: ys => .tup [x, y] :: zipT xs ys
  | _, _ => []
theorem zipT_get : ∀ (xs ys : List D) (i : Nat) (d : D), (zipT xs ys)[i]? = some d → ∃ x y, xs[i]? = some x ∧ ys[i]? = some y ∧ d = .tup [x, y]
  | [], ys, i, d, h => by unfold zipT at h; simp at h
  | _ :: _, [], i, d, h => by unfold zipT at h; simp at h
  | x :: xs, y :: ys, 0, d, h => by
    unfold zipT at h
    simp at h
    exact ⟨x, y, rfl, rfl, h.symm⟩
  | x :: xs, y :: ys, i + 1, d, h => by
    unfold zipT at h
    simpa using zipT_get xs ys i d (by simpa using h)
theorem zipT_len : ∀ xs ys : List D, (zipT xs ys).length = min xs.length ys.length
  | [], ys => by unfold zipT; simp
  | _ :: _, [] => by unfold zipT; simp
  | x :: xs, y :: ys => by
    unfold zipT
    rw [List.length_cons, zipT_len xs ys, List.length_cons, List.length_cons]
    omega
theorem pair_new {K : PySem.W.Frag} {S : Sto} {H : Hp} {T : Addr} {x y : D} {v u : V} (hs : RepS K S H) (n : H T = none) (r1 : RepD K S H x v) (r2 : RepD K S H y u) : RepD K S (upd H T (.tup [v, u])) (.tup [x, y]) (.ref T) ∧ RepS K S (upd H T (.tup [v, u])) ∧ Ext S H S (upd H T (.tup [v, u])) :=
  ⟨rep_newT (.cons r1 (.cons r2 .nil)) hs n, hs.new n, Ext.new n⟩
theorem yields_zipL {K : PySem.W.Frag} {S : Sto} {H : Hp} {a b : Addr} {vs us : List V} {ds es : List D} (n : S a = none) (h : H a = some (.lst vs)) (r : RepDs K S H ds vs) (n2 : S b = none) (h2 : H b = some (.lst us)) (r2 : RepDs K S H es us) : Yields K S H (Itz K a b) (zipT ds es) where
  go := fun S' H' e hs i d ed => by
    obtain ⟨x, y, ex, ey, rfl⟩ := zipT_get _ _ _ _ ed
    obtain ⟨v, ev, rv⟩ := r.get ex
    obtain ⟨u, eu, ru⟩ := r2.get ey
    have l1 : SqL K H' a vs := .inl (.inl (e a _ n h).1)
    have l2 : SqL K H' b us := .inl (.inl (e b _ n2 h2).1)
    refine ⟨⟨vs, us, v, u, l1, l2, ev, eu⟩, ?_⟩
    rintro z H'' ⟨T, v', u', rfl, nT, rfl, f1, f2⟩
    have e1 := f1 vs l1
    have e2 := f2 us l2
    rw [ev] at e1; cases e1
    rw [eu] at e2; cases e2
    exact pair_new hs nT (rv.ext e) (ru.ext e)
  stop := fun S' H' e hs => ⟨vs, us, .inl (.inl (e a _ n h).1), .inl (.inl (e b _ n2 h2).1), by rw [zipT_len, ← r.len, ← r2.len]; omega⟩
theorem yields_zipT {K : PySem.W.Frag} {S : Sto} {H : Hp} {a b : Addr} {vs us : List V} {ds es : List D} (h : RT K S H a vs) (r : RepDs K S H ds vs) (h2 : RT K S H b us) (r2 : RepDs K S H es us) : Yields K S H (RZ.ItzT K a b) (zipT ds es) where
  go := fun S' H' e hs i d ed => by
    obtain ⟨x, y, ex, ey, rfl⟩ := zipT_get _ _ _ _ ed
    obtain ⟨v, ev, rv⟩ := r.get ex
    obtain ⟨u, eu, ru⟩ := r2.get ey
    have l1 : SqT K H' a vs := (h.ext e).sq
    have l2 : SqT K H' b us := (h2.ext e).sq
    refine ⟨⟨vs, us, v, u, l1, l2, ev, eu⟩, ?_⟩
    rintro z H'' ⟨T, v', u', rfl, nT, rfl, f1, f2⟩
    have e1 := f1 vs l1
    have e2 := f2 us l2
    rw [ev] at e1; cases e1
    rw [eu] at e2; cases e2
    exact pair_new hs nT (rv.ext e) (ru.ext e)
  stop := fun S' H' e hs => ⟨vs, us, (h.ext e).sq, (h2.ext e).sq, by rw [zipT_len, ← r.len, ← r2.len]; omega⟩
def tdZip (ta : TAD) : TID := fun env S Q => ta env S fun ds S1 => match ds with
  | [.lst xs, .lst ys] => Q (zipT xs ys) S1
  | [.tup xs, .tup ys] => Q (zipT xs ys) S1
  | _ => False
theorem di_zip {e e2 : Expr} {p pos tpos : Pos} {elts : List Expr} {kk : Nat} (hg : Gl X "zip") (hm : X.mg "zip" = none) (ha : DA X [e, e2] t)
    (hs : starEach [e, e2] X.env = (false, eval e X.env) :: starEach [e2] X.env := by rfl) (hpl : (backTo pos (starEach [e2] X.env)).any (·.1) = false := by rfl) : DI X (.Tuple elts kk tpos) (.Call (.Name "zip" p) [e, e2] [] pos) (tdZip t) where
  mono := fun env S Q Q' h q => ha.mono _ _ _ _ (fun d s q => by
    split at q
    · exact h _ _ q
    · exact h _ _ q
    · exact q.elim) q
  run := pi_imp (RZ.pi_zipA hg hm ha.run hs hpl) fun σ H R ⟨env, S, hev, hst, q⟩ => ⟨env, S, hev, hst, ha.mono _ _ _ _ (fun ds S1 q vs H1 r s1 e1 => by
    split at q
    · obtain ⟨v, u, rfl, r1, r2⟩ := r.two_inv
      cases r1 with
      | lst n1 h1 l1 =>
        cases r2 with
        | lst n2 h2 l2 => exact ⟨_, _, _, _, rfl, .inl ⟨.inl (.inl h1), .inl (.inl h2), q _ H1 (yields_zipL n1 h1 l1 n2 h2 l2) s1 e1⟩⟩
    · obtain ⟨v, u, rfl, r1, r2⟩ := r.two_inv
      cases r1 with
      | tup h1 l1 =>
        cases r2 with
        | tup h2 l2 => exact ⟨_, _, _, _, rfl, .inr ⟨h1.sq, h2.sq, q _ H1 (yields_zipT h1 l1 h2 l2) s1 e1⟩⟩
    · exact q.elim) q⟩
/-- enumerate of a list that is a value -/
def enumT : Nat → List D → List D
  | _, [] => []
  | i, x :: xs => .tup [.int (i : Nat), x] :: enumT (i + 1) xs
theorem enumT_get : ∀ (xs : List D) (k i : Nat) (d : D), (enumT k xs)[i]? = some d → ∃ x, xs[i]? = some x ∧ d = .tup [.int ((k + i : Nat) : Int), x]
  | [], k, i, d, h => by unfold enumT at h; simp at h
  | x :: xs, k, 0, d, h => by
    unfold enumT at h
    simp at h
    exact ⟨x, rfl, by rw [← h]; simp⟩
  | x :: xs, k, i + 1, d, h => by
    unfold enumT at h
    obtain ⟨y, e1, e2⟩ := enumT_get xs (k + 1) i d (by simpa using h)
    exact ⟨y, by simpa using e1, by rw [e2, show k + 1 + i = k + (i + 1) by omega]⟩
theorem enumT_len : ∀ (k : Nat) (xs : List D), (enumT k xs).length = xs.length
  | _, [] => rfl
  | k, x :: xs => by unfold enumT; rw [List.length_cons, enumT_len, List.length_cons]
theorem yields_enum {K : PySem.W.Frag} {S : Sto} {H : Hp} {a : Addr} {vs : List V} {ds : List D} (n : S a = none) (h : H a = some (.lst vs)) (r : RepDs K S H ds vs) : Yields K S H (Ite K a) (enumT 0 ds) where
  go := fun S' H' e hs i d ed => by
    obtain ⟨x, ex, rfl⟩ := enumT_get _ _ _ _ ed
    obtain ⟨v, ev, rv⟩ := r.get ex
    have l1 : SqL K H' a vs := .inl (.inl (e a _ n h).1)
    refine ⟨⟨vs, v, l1, ev⟩, ?_⟩
    rintro z H'' ⟨T, v', rfl, nT, rfl, f1⟩
    have e1 := f1 vs l1
    rw [ev] at e1; cases e1
    rw [Nat.zero_add]
    exact pair_new hs nT (.int _) (rv.ext e)
  stop := fun S' H' e hs => ⟨vs, .inl (.inl (e a _ n h).1), by rw [enumT_len, ← r.len]; exact Nat.le_refl _⟩
def tdEnum (ta : TAD) : TID := fun env S Q => ta env S fun ds S1 => match ds with
  | [.lst xs] => Q (enumT 0 xs) S1
  | _ => False
theorem di_enum {e : Expr} {p pos tpos : Pos} {elts : List Expr} {kk : Nat} (hg : Gl X "enumerate") (hm : X.mg "enumerate" = none) (ha : DA X [e] t) (hs : starEach [e] X.env = [(false, eval e X.env)] := by rfl) :
    DI X (.Tuple elts kk tpos) (.Call (.Name "enumerate" p) [e] [] pos) (tdEnum t) where
  mono := fun env S Q Q' h q => ha.mono _ _ _ _ (fun d s q => by
    split at q
    · exact h _ _ q
    · exact q.elim) q
  run := pi_imp (pi_enum hg hm ha.run hs) fun σ H R ⟨env, S, hev, hst, q⟩ => ⟨env, S, hev, hst, ha.mono _ _ _ _ (fun ds S1 q vs H1 r s1 e1 => by
    split at q
    · obtain ⟨v, rfl, r1⟩ := r.one_inv
      cases r1 with
      | lst n1 h1 l1 => exact ⟨_, _, rfl, .inl (.inl h1), q _ H1 (yields_enum n1 h1 l1) s1 e1⟩
    · exact q.elim) q⟩

/-! ### list comprehensions -/
def tdLcGo (p : Addr) (step : D → Sto → (Option D → Sto → Prop) → Prop) : List D → List D → Sto → (List D → Sto → Prop) → Prop
  | [], acc, S, Q => S p = some (.lst acc) ∧ Q acc (sdel S p)
  | x :: r, acc, S, Q => S p = some (.lst acc) ∧ step x S fun o S1 => S1 p = some (.lst acc) ∧ match o with
    | some y => acc.length < sizeLine ∧ tdLcGo p step r (acc ++ [y]) (sup S1 p (.lst (acc ++ [y]))) Q
    | none => tdLcGo p step r acc S1 Q
/-- one turn: the target, the test, the element -/
def lcStep (pt : TPat) (tt : TTD) (te : TED) (env : Env') (x : D) (S : Sto) (k : Option D → Sto → Prop) : Prop := match bindD pt x env with
  | some env' => tt env' S fun b S1 => if b = true then te env' S1 fun y S2 => k (some y) S2 else k none S1
  | none => False
def tdLc (w : TID) (pt : TPat) (tt : TTD) (te : TED) (own : List Nat) : TED := fun env S Q => w env S fun ds S1 => ∀ p, S1 p = none → tdLcGo p (lcStep pt tt te (wipeD env own)) ds [] (sup S1 p (.lst [])) fun acc S2 => Q (.lst acc) S2
structure DTs (X : Cx) (ifs : List Expr) (t : TTD) : Prop where
  mono : ∀ env S (Q Q' : Bool → Sto → Prop), (∀ d s, Q d s → Q' d s) → t env S Q → t env S Q'
  run : PTs X ifs (liftT X.K t)
def tdYes : TTD := fun _ S Q => Q true S
theorem pts_imp {e : List Expr} {t t' : TT} (h : PTs X e t) (i : ∀ σ H Q, t' σ H Q → t σ H Q) : PTs X e t' := ⟨fun pins s σ H Q I q => h.run pins s σ H Q I (i σ H Q q)⟩
theorem dts_nil : DTs X [] tdYes where
  mono := fun env S Q Q' h q => h _ _ q
  run := pts_imp pts_nil fun σ H Q ⟨env, S, he, hs, q⟩ => q H hs Ext.refl
theorem dts_one {c : Expr} {t : TTD} (h : DT X c t) : DTs X [c] t := ⟨h.mono, pts_one h.run⟩
theorem lcGo_mono {p : Addr} {step : D → Sto → (Option D → Sto → Prop) → Prop} (m : ∀ x S (k k' : Option D → Sto → Prop), (∀ o s, k o s → k' o s) → step x S k → step x S k') {Q Q' : List D → Sto → Prop} (h : ∀ d s, Q d s → Q' d s) : ∀ (ds acc : List D) (S : Sto), tdLcGo p step ds acc S Q → tdLcGo p step ds acc S Q'
  | [], acc, S, q => ⟨q.1, h _ _ q.2⟩
  | x :: r, acc, S, q => ⟨q.1, m _ _ _ _ (fun o s q => ⟨q.1, by
    have q2 := q.2
    split at q2
    · exact ⟨q2.1, lcGo_mono m h r _ _ q2.2⟩
    · exact lcGo_mono m h r _ _ q2⟩) q.2⟩
theorem lcStep_mono {pt : TPat} {tt : TTD} {te : TED} {env : Env'} (m1 : ∀ env S (Q Q' : Bool → Sto → Prop), (∀ d s, Q d s → Q' d s) → tt env S Q → tt env S Q') (m2 : ∀ env S (Q Q' : QD), (∀ d s, Q d s → Q' d s) → te env S Q → te env S Q') :
    ∀ x S (k k' : Option D → Sto → Prop), (∀ o s, k o s → k' o s) → lcStep pt tt te env x S k → lcStep pt tt te env x S k' := fun x S k k' h q => by
  unfold lcStep at q ⊢
  split at q
  · exact m1 _ _ _ _ (fun b s q => by
      cases b with
      | true => rw [if_pos rfl] at q ⊢; exact m2 _ _ _ _ (fun y s q => h _ _ q) q
      | false => rw [if_neg Bool.false_ne_true] at q ⊢; exact h _ _ q) q
  · exact q.elim
theorem lc_lift {w : TID} {pt : TPat} {tt : TTD} {vs : List Nat} {K : PySem.W.Frag} (m1 : ∀ env S (Q Q' : Bool → Sto → Prop), (∀ d s, Q d s → Q' d s) → tt env S Q → tt env S Q') (m2 : ∀ env S (Q Q' : QD), (∀ d s, Q d s → Q' d s) → te env S Q → te env S Q')
    (m3 : ∀ env S (Q Q' : List D → Sto → Prop), (∀ d s, Q d s → Q' d s) → w env S Q → w env S Q') (hown : ∀ j ∈ slots pt, j ∈ vs) {σ : L2.St} {H : Hp} {Q : VK} (q : liftE K (tdLc w pt tt te vs) σ H Q) :
    tLc (liftI K w) (gOf K pt) (liftT K tt) (liftE K te) vs σ H Q := by
  obtain ⟨env, S, hev, hst, q⟩ := q
  refine ⟨env, S, hev, hst, m3 _ _ _ _ (fun ds S1 q J H1 Y s1 e1 => ?_) q⟩
  intro p hp
  have q0 := q p (s1.free hp)
  have e2 : Ext S1 H1 (sup S1 p (.lst [])) (upd H1 p (.lst [])) := Ext.newS hp
  have s2 : RepS K (sup S1 p (.lst [])) (upd H1 p (.lst [])) := s1.newS hp (.lst .nil)
  -- what holds between two turns
  let Wd : Nat → Hp → Prop := fun i H' => ∃ Sn acc, RepS K Sn H' ∧ Ext S1 H1 Sn H' ∧ tdLcGo p (lcStep pt tt te (wipeD env vs)) (ds.drop i) acc Sn fun acc S2 => PL.up K S H Q (.lst acc) S2
  refine ⟨fun i m H' => i + m = ds.length ∧ Wd i H', ⟨ds.length, by omega, _, [], s2, e2, q0⟩, fun i m H2 hW => ?_⟩
  obtain ⟨hm, Sn, acc, sn, en, q2⟩ := hW
  by_cases hi : i < ds.length
  · have hd : ds[i]? = some ds[i] := List.getElem?_eq_getElem hi
    rw [List.drop_eq_getElem_cons hi] at q2
    obtain ⟨_, q2⟩ := q2
    obtain ⟨g1, g2⟩ := Y.go Sn H2 en sn i _ hd
    refine .inr ⟨g1, Wd (i + 1), fun H' h => ⟨m - 1, by omega, by omega, h⟩, fun x H3 hy => ?_⟩
    obtain ⟨rx, s3, e3⟩ := g2 x H3 hy
    have e13 : Ext S1 H1 Sn H3 := en.trans e3
    unfold lcStep at q2
    split at q2
    · rename_i env' eb
      have hw : RepEnv K Sn H3 (wipeD env vs) (wipe σ vs) := ((hev.ext e1).ext e13).wipe vs
      refine bind_ok pt eb rx hw fun σ3 he3 so => ?_
      refine ⟨by rw [wipe_same so hown, wipe_idem], env', Sn, he3, s3, m1 _ _ _ _ (fun b S4 q4 H4 s4 e4 => ?_) q2⟩
      cases b with
      | false =>
        rw [if_neg Bool.false_ne_true] at q4
        refine iteF ?_
        exact ⟨S4, acc, s4, e13.trans e4, q4.2⟩
      | true =>
        rw [if_pos rfl] at q4
        refine iteT ?_
        refine ⟨env', S4, he3.ext e4, s4, m2 _ _ _ _ (fun y S5 q5 v5 H5 r5 s5 e5 => ?_) q4⟩
        obtain ⟨q6, q7, q8⟩ := q5
        obtain ⟨ws, h5, r6⟩ := sto_lst s5 q6
        refine ⟨ws, h5, by rw [← r6.len]; exact q7, _, _, s5.write q6 (.lst (r6.append (RepDs.one r5))), ?_, q8⟩
        exact (e13.trans (e4.trans e5)).trans (Ext.write q6)
    · exact q2.elim
  · have hi' : i = ds.length := by omega
    rw [List.drop_of_length_le (by omega)] at q2
    refine .inl ⟨hi' ▸ Y.stop Sn H2 en sn, ?_⟩
    obtain ⟨ws, h5, r6⟩ := sto_lst sn q2.1
    exact q2.2 (.ref p) H2 (.lst sdel_same h5 (r6.ext SLe.del.ext)) (SLe.del.rep sn) ((e1.trans en).trans SLe.del.ext)
theorem de_lc {elt iter : Expr} {ifs : List Expr} {scope : Scope} {own : List (Str × Nat)} {w : TID} {pt : TPat} {tt : TTD} (hc : X.calm = true) (hN : X.N.Nodup) (hi : DI X tg iter w) (ok : BlkOk X.N X.env.scope scope own) (hown : ∀ j ∈ slots pt, j ∈ own.map (·.2))
    (hg : ∀ (s : Shared) (H : Hp) (C : Addr) (cl : List (Str × Addr)) (fp : List Addr), DP (X.blk s H scope (compEnvC scope cl C X.env) fp) tg pt)
    (ht : ∀ (s : Shared) (H : Hp) (C : Addr) (cl : List (Str × Addr)) (fp : List Addr), DTs (X.blk s H scope (compEnvC scope cl C X.env) fp) ifs tt)
    (he : ∀ (s : Shared) (H : Hp) (C : Addr) (cl : List (Str × Addr)) (fp : List Addr), DE (X.blk s H scope (compEnvC scope cl C X.env) fp) elt te)
    (hs : ∀ x, foldedSetIterable iter X.env x = pure x := by intro _; rfl) : DE X (.ListComp elt [⟨tg, iter, ifs, 0⟩] scope pos) (tdLc w pt tt te (own.map (·.2))) where
  mono := fun env S Q Q' h q => hi.mono _ _ _ _ (fun ds s q p n => lcGo_mono (lcStep_mono (ht X.s_0 X.H_0 0 [] []).mono (he X.s_0 X.H_0 0 [] []).mono) (fun d s q => h _ _ q) _ _ _ (q p n)) q
  run := pe_imp (pe_lc hc hN hi.run ok (fun s H C cl fp => (hg s H C cl fp).run) (fun s H C cl fp => (ht s H C cl fp).run) (fun s H C cl fp => (he s H C cl fp).run) hs) fun σ H Q q => lc_lift (ht X.s_0 X.H_0 0 [] []).mono (he X.s_0 X.H_0 0 [] []).mono hi.mono hown q
end
end PL

namespace PL
open PySem PySem.Spec PyProof.Rows L2

/-! ### the law's own call, from its promise over D -/
def emptyS : Sto := fun _ => none
theorem repS_empty {K : PySem.W.Frag} {H : Hp} : RepS K emptyS H := fun a o e => by cases e
theorem ints_rep {K : PySem.W.Frag} {S : Sto} {H : Hp} : ∀ ns : List Int, RepDs K S H (ns.map D.int) (ns.map V.int)
  | [] => .nil
  | n :: r => .cons (.int n) (ints_rep r)
/-- the heap in which the script alone may be tracked -/
structure ScriptAt (P : Program) (w : World) (K : PySem.W.Frag) (h : Heap) (a : Addr) (ns : List Int) (H : Hp) : Prop where
  only : ∀ b, H b = none ∨ (b = a ∧ K.lookup a = none ∧ ∃ o, h.get? a = some o ∧ (∀ es ep, o.data ≠ .dict es ep) ∧ H b = some (.frz o (.lst (ns.map V.int))))
  seen : SqL K H a (ns.map V.int)
  ok : HOk P w H h
theorem script_at {P : Program} {w : World} {K : PySem.W.Frag} {h : Heap} {a : Addr} {vs : List Value} {ns : List Int} (KX : K.In h) (ha : h.get? a = some { cls := .type "list", data := .seq vs.toArray }) (hi : IntsAre vs ns) (hl : ns.length ≤ sizeLine) : ∃ H, ScriptAt P w K h a ns H := by
  have rv := vals_ints hi
  have hlen := hi.length
  by_cases hk : ∃ o, K.lookup a = some o
  · obtain ⟨o, hk⟩ := hk
    have e := (KX a o hk).symm.trans ha
    have e2 : o = { cls := .type "list", data := .seq vs.toArray } := Option.some.inj e
    refine ⟨fun _ => none, fun _ => .inl rfl, .inr ⟨o, vs.toArray, 0, hk, ?_⟩, fun b u z => by cases z⟩
    rw [e2]
    exact ⟨rfl, rfl, rfl, by simpa [hlen] using hl, by simpa using rv⟩
  · have hk0 : K.lookup a = none := by
      cases q : K.lookup a with
      | none => rfl
      | some o => exact (hk ⟨o, q⟩).elim
    let G : Hp := fun b => if b = a then some (HO.frz { cls := .type "list", data := .seq vs.toArray } (.lst (ns.map V.int))) else none
    have at_a : G a = some (.frz { cls := .type "list", data := .seq vs.toArray } (.lst (ns.map V.int))) := if_pos rfl
    refine ⟨G, fun b => ?_, .inl (.inr ⟨_, at_a⟩), fun b u z => ?_⟩
    · by_cases e : b = a
      · exact .inr ⟨e, hk0, _, ha, (fun es ep z => by cases z), if_pos e⟩
      · exact .inl (if_neg e)
    · by_cases e : b = a
      · subst e
        cases at_a.symm.trans z
        exact ⟨ha, by simpa using hl, vs, 0, rv, ha⟩
      · exact absurd ((if_neg e).symm.trans z) (by simp)
theorem law_run {P : Program} {w : World} {K : PySem.W.Frag} {mg mb : Str → Option Value} {k : Nat} {fa a : Addr} {fd : FuncData} {x : Str} {sp : SpD} {s1 : Shared} {vs : List Value} {ns : List Int}
    (KX : K.In s1.heap) (hns : s1.heap.Ns mainGlobals mg) (hb : s1.heap.Ns builtinsNs mb) (hbb : ∀ x : Str, x ≠ "__name__" → mb x = bootBuiltins x) (hlim : s1.heap.NoLimit) (hg : s1.gens = #[])
    (ha : s1.heap.get? a = some { cls := .type "list", data := .seq vs.toArray }) (hi : IntsAre vs ns) (hl : ns.length ≤ sizeLine) (hr : Room k callerA)
    (F : ∀ base : Heap, K.In base → base.Ns mainGlobals mg → DFn P w K mg base k fa fd [x] sp) (hbind : ∀ (s : Shared) (u : Value), BindsTo s fd ⟨[u], []⟩ [(x, u)])
    (hsp : sp [.scr (ns.map D.int)] emptyS fun d _ => d = .bl true) :
    codeAny (model P w) callerA (.call (.ref fa) ⟨[.ref a], []⟩) (fun r s' => r = .ok (.ret (.bool true)) ∧ OldK s1.heap s'.heap ∧ s'.os = s1.os ∧ AllBare s'.gens) s1 := by
  obtain ⟨H, only, seen, ok⟩ := script_at (P := P) (w := w) KX ha hi hl
  -- what is no script is still there where the script is hidden
  have clear : ∀ {b : Addr} {o : Obj}, s1.heap.get? b = some o → (∀ z, H b = some z → False) → (hidT s1.heap H).get? b = some o := fun {b o} e n => hidT_get e (by
    cases q : H b with
    | none => rfl
    | some z => exact (n z q).elim)
  have dicts : ∀ {b : Addr} {m : Str → Option Value}, s1.heap.Ns b m → (hidT s1.heap H).Ns b m := by
    rintro b m ⟨o, es, ep, e, d, r⟩
    refine ⟨o, es, ep, clear e fun z q => ?_, d, r⟩
    rcases only b with n | ⟨eb, _, o2, e2, nd, _⟩
    · rw [n] at q; cases q
    · subst eb
      rw [e] at e2; cases e2
      exact nd es ep d
  have inK : K.In (hidT s1.heap H) := fun b o e => clear (KX b o e) fun z q => by
    rcases only b with n | ⟨eb, nk, _⟩
    · rw [n] at q; cases q
    · subst eb; rw [nk] at e; cases e
  have md : Mod K mg (hidT s1.heap H) := by
    obtain ⟨mc, l1, l2⟩ := hlim
    exact ⟨inK, dicts hns, ⟨mb, dicts hb, hbb⟩, ⟨mc, dicts l1, l2⟩⟩
  have e0 : Env0 P w K mg (hidT s1.heap H) callerA [] s1 H :=
    { frames := rfl, mod := md, bs := fun b o e => of_hidT e, bsz := Nat.le_of_eq (hidT_size _ _), funs := trivial, frf := (fun b hb => by cases hb), hok := ok, bare := .of_eq hg }
  have q0 : spOf K sp [.ref a] H (fun v _ => v = .bl true) E0 := by
    refine ⟨emptyS, [.scr (ns.map D.int)], repS_empty, .cons (.scr (seen.imp (fun h => ⟨rfl, h⟩) fun h => h) (ints_rep ns)) .nil, (F _ inK (dicts hns)).mono _ _ _ _ (fun d s e => ?_) hsp⟩
    subst e
    intro v H' r _ _
    cases r; rfl
  refine codeAny_mono ((F _ inK (dicts hns)).fn.go callerA [] s1 H ⟨[.ref a], []⟩ [.ref a] [.ref a] _ _ rfl hr e0 (hbind s1 (.ref a)) (.cons rfl .nil) q0) ?_
  intro r s' h
  match r, h with
  | .error e, h => exact False.elim h
  | .ok .next, h => exact False.elim h
  | .ok .brk, h => exact False.elim h
  | .ok .cont, h => exact False.elim h
  | .ok (.ret u), h =>
    obtain ⟨v, H', os, bare, un, ok', rv, q⟩ := h
    have q' : v = .bl true := q
    subst q'
    cases rv
    refine ⟨rfl, OldK.of_keep fun b o e => ?_, os, bare⟩
    rcases only b with n | ⟨eb, _, o2, e2, _, q2⟩
    · exact un.keep b o e n (fun z => by cases z) (fun z => by cases z)
    · subst eb
      rw [e] at e2; cases e2
      exact (ok' b _ (un.frzs b o _ q2)).1
/-- the end of a law's row: from the promise of its def -/
theorem pl_walk {l : PySem.W.OpenLaw} {n k : Nat} {q : Program} {loose : List Str} {XP : (Str → Option Value) → Heap → Prop} {YP : World → Heap → Prop} {d : DefRec} {K : Params → PySem.W.Frag} {sp : SpD} {x : Str}
    (hn : l.most = some n) (hn2 : n ≤ sizeLine) (hdf : d.params.defaults = []) (hr : Room k callerA) (hY : ∀ (w : World) (h : Heap), YP w h → (K w.params).In h)
    (F : ∀ (w : World) (mg : Str → Option Value) (fa : Addr) (h : Heap), (K w.params).In h → h.Ns mainGlobals mg → mg d.name = some (.ref fa) →
      ∃ fd : FuncData, (∀ (s : Shared) (u : Value), BindsTo s fd ⟨[u], []⟩ [(x, u)]) ∧ ∀ base : Heap, (K w.params).In base → base.Ns mainGlobals mg → DFn l.prog w (K w.params) mg base k fa fd [x] sp)
    (hsp : ∀ ns : List Int, ns.length ≤ n → sp [.scr (ns.map D.int)] emptyS fun d _ => d = .bl true) : PySem.W.WalkO q loose XP YP l.row.toRowW d [] (fun f vs => PySem.call f vs) := by
  refine Att.attach_call hn hdf ?_
  intro w s0 s1 mg mb fa o pm cd doc a vs ns G Y ho hd hcd hmg hobj hints hlen hg
  obtain ⟨fd, hb, hF⟩ := F w mg fa _ (hY w _ Y) G.T.g hmg
  exact law_run (hY w _ Y) G.T.g G.T.b G.T.builtins G.T.nolimit hg hobj hints (Nat.le_trans hlen hn2) hr hF hb (hsp ns hlen)

/-! ### tables of the module: texts as keys -/
def KTab (K : PySem.W.Frag) (w : World) (d : Addr) (tbl : List (Str × D)) : Prop :=
  ∃ es n, KDict K w d es n ∧ ∀ z, ∃ r, PySem.W.nsIn K d z = some r ∧ match tbl.lookup z with
    | some c => ∃ u v, r = some u ∧ RelV v u ∧ ∀ S H, RepD K S H c v
    | none => r = none
section
variable {X : Cx} {pos : Pos} {e : Expr} {te : TED} {x : Str} {d : Addr} {tbl : List (Str × D)}
def tdKIn (neg : Bool) (tbl : List (Str × D)) (te : TED) : TED := fun env S Q => te env S fun c S1 => match c with
  | .str z => Q (.bl (if neg then !(tbl.lookup z).isSome else (tbl.lookup z).isSome)) S1
  | _ => False
def tdKGet (tbl : List (Str × D)) (te : TED) : TED := fun env S Q => te env S fun c S1 => match c with
  | .str z => match tbl.lookup z with
    | some r => Q r S1
    | none => False
  | _ => False
def kinR (neg : Bool) (tbl : List (Str × D)) (d : Addr) : Sto → D → D → PR := fun _ x y => match x, y with
  | .str z, .ref a => some (a = d, .bl (if neg then !(tbl.lookup z).isSome else (tbl.lookup z).isSome))
  | _, _ => none
theorem lookup_isSome {K : PySem.W.Frag} {w : World} (T : KTab K w d tbl) (z : Str) : ∃ r, PySem.W.nsIn K d z = some r ∧ r.isSome = (tbl.lookup z).isSome := by
  obtain ⟨es, n, D, h⟩ := T
  obtain ⟨r, e1, e2⟩ := h z
  refine ⟨r, e1, ?_⟩
  cases q : tbl.lookup z with
  | none => rw [q] at e2; rw [e2]; rfl
  | some c =>
    rw [q] at e2
    obtain ⟨u, v, rfl, _⟩ := e2
    rfl
theorem dop_kin (T : KTab X.K X.w d tbl) : DOp X (compareOp .In) (rdP (kinR false tbl d)) :=
  dop_P fun pins s σ H vx vy v u Q S x y c r I rx ry hs r1 r2 e hC q => by
    unfold kinR at e
    split at e
    · cases e; cases r1; cases r2
      subst hC
      obtain ⟨o, e1, e2⟩ := lookup_isSome T _
      obtain ⟨es, n, D, _⟩ := T
      refine op_in_kd D pins s σ H _ _ v u Q I rx ry ⟨_, o, rfl, rfl, e1, ?_⟩
      rw [e2]
      exact q _ _ (.bl _) hs Ext.refl
    · cases e
theorem dop_knotIn (T : KTab X.K X.w d tbl) : DOp X (compareOp .NotIn) (rdP (kinR true tbl d)) :=
  dop_P fun pins s σ H vx vy v u Q S x y c r I rx ry hs r1 r2 e hC q => by
    unfold kinR at e
    split at e
    · cases e; cases r1; cases r2
      subst hC
      obtain ⟨o, e1, e2⟩ := lookup_isSome T _
      obtain ⟨es, n, D, _⟩ := T
      refine op_notIn_kd D pins s σ H _ _ v u Q I rx ry ⟨_, o, rfl, rfl, e1, ?_⟩
      rw [e2]
      exact q _ _ (.bl _) hs Ext.refl
    · cases e
/-- the reading without the address -/
theorem DE.weak {e : Expr} {t t' : TED} (h : DE X e t) (m : ∀ env S (Q Q' : QD), (∀ d s, Q d s → Q' d s) → t' env S Q → t' env S Q') (i : ∀ env S Q, t' env S Q → t env S Q) : DE X e t' :=
  ⟨m, pe_imp h.run fun σ H Q ⟨env, S, he, hs, q⟩ => ⟨env, S, he, hs, i _ _ _ q⟩⟩
theorem DT.weak {e : Expr} {t t' : TTD} (h : DT X e t) (m : ∀ env S (Q Q' : Bool → Sto → Prop), (∀ d s, Q d s → Q' d s) → t' env S Q → t' env S Q') (i : ∀ env S Q, t' env S Q → t env S Q) : DT X e t' :=
  ⟨m, pt_imp h.run fun σ H Q ⟨env, S, he, hs, q⟩ => ⟨env, S, he, hs, i _ _ _ q⟩⟩
theorem tdKIn_mono {neg : Bool} (m : ∀ env S (Q Q' : QD), (∀ d s, Q d s → Q' d s) → te env S Q → te env S Q') : ∀ env S (Q Q' : QD), (∀ d s, Q d s → Q' d s) → tdKIn neg tbl te env S Q → tdKIn neg tbl te env S Q' :=
  fun env S Q Q' h q => m _ _ _ _ (fun c s q => by
    split at q
    · exact h _ _ q
    · exact q.elim) q
theorem kin_weak {neg : Bool} (m : ∀ env S (Q Q' : QD), (∀ d s, Q d s → Q' d s) → te env S Q → te env S Q') : ∀ env S (Q : QD), tdKIn neg tbl te env S Q → tdOp (rdP (kinR neg tbl d)) te (tdC (.ref d)) env S Q :=
  fun env S Q q => m _ _ _ _ (fun c s q => by
    split at q
    · exact ⟨rfl, q⟩
    · exact q.elim) q
theorem de_kglob {p : Pos} (hg : Gl X x) (hm : X.mg x = some (.ref d)) (hd : (x == ("__debug__" : Str)) = false := by decide) : DE X (.Name x p) (tdC (.ref d)) := de_glob (v := .ref d) hg hm rfl (fun _ _ => .ref d) hd
theorem de_kin {p : Pos} (T : KTab X.K X.w d tbl) (he : DE X e te) (hg : Gl X x) (hm : X.mg x = some (.ref d)) (hd : (x == ("__debug__" : Str)) = false := by decide) (hb : behindInMarks .In (.Name x p) = false := by rfl) : DE X (.Compare e [.In] [.Name x p] pos) (tdKIn false tbl te) :=
  DE.weak (de_cmp (dop_kin T) he (de_kglob hg hm hd) hb) (tdKIn_mono he.mono) (kin_weak he.mono)
theorem de_knotIn {p : Pos} (T : KTab X.K X.w d tbl) (he : DE X e te) (hg : Gl X x) (hm : X.mg x = some (.ref d)) (hd : (x == ("__debug__" : Str)) = false := by decide) (hb : behindInMarks .NotIn (.Name x p) = false := by rfl) : DE X (.Compare e [.NotIn] [.Name x p] pos) (tdKIn true tbl te) :=
  DE.weak (de_cmp (dop_knotIn T) he (de_kglob hg hm hd) hb) (tdKIn_mono he.mono) (kin_weak he.mono)
theorem dt_kin {p : Pos} (T : KTab X.K X.w d tbl) (he : DE X e te) (hg : Gl X x) (hm : X.mg x = some (.ref d)) (hd : (x == ("__debug__" : Str)) = false := by decide) (hb : behindInMarks .In (.Name x p) = false := by rfl) : DT X (.Compare e [.In] [.Name x p] pos) (tdB (tdKIn false tbl te)) :=
  DT.weak (dt_cmp (dop_kin T) he (de_kglob hg hm hd) hb) (tdB_mono (tdKIn_mono he.mono)) fun env S Q q => kin_weak he.mono env S _ q
theorem dt_knotIn {p : Pos} (T : KTab X.K X.w d tbl) (he : DE X e te) (hg : Gl X x) (hm : X.mg x = some (.ref d)) (hd : (x == ("__debug__" : Str)) = false := by decide) (hb : behindInMarks .NotIn (.Name x p) = false := by rfl) : DT X (.Compare e [.NotIn] [.Name x p] pos) (tdB (tdKIn true tbl te)) :=
  DT.weak (dt_cmp (dop_knotIn T) he (de_kglob hg hm hd) hb) (tdB_mono (tdKIn_mono he.mono)) fun env S Q q => kin_weak he.mono env S _ q
/-- d[e] -/
def kgetR (tbl : List (Str × D)) (d : Addr) : D → D → Sto → QD → Prop := fun x y S Q => match x, y with
  | .ref a, .str z => a = d ∧ match tbl.lookup z with
    | some r => Q r S
    | none => False
  | _, _ => False
theorem dix_k (T : KTab X.K X.w d tbl) : IxR X (fun vx vy H Q => ∃ S x y, RepS X.K S H ∧ RepD X.K S H x vx ∧ RepD X.K S H y vy ∧ kgetR tbl d x y S (PL.up X.K S H Q)) := by
  intro value slice pins s σ H vx vy v u Q I rx ry h hsub
  obtain ⟨S, x, y, hs, r1, r2, q⟩ := h
  unfold kgetR at q
  split at q
  · cases r1; cases r2
    obtain ⟨rfl, q⟩ := q
    split at q
    · rename_i c ec
      obtain ⟨es, n, D, h⟩ := T
      obtain ⟨o, e1, e2⟩ := h _
      rw [ec] at e2
      obtain ⟨u0, v0, rfl, r0, rep⟩ := e2
      exact ix_kdict value slice pins s σ H _ _ v u Q I rx ry ⟨_, _, v0, rfl, rfl, ⟨es, n, u0, D.at_, D.lit, e1, r0⟩, q v0 H (rep S H) hs Ext.refl⟩ hsub
    · exact q.elim
  · exact q.elim
theorem kgetR_mono : ∀ x y S (Q Q' : QD), (∀ d s, Q d s → Q' d s) → kgetR tbl d x y S Q → kgetR tbl d x y S Q' := fun x y S Q Q' h q => by
  unfold kgetR at q ⊢
  split at q
  · refine ⟨q.1, ?_⟩
    have q2 := q.2
    split at q2
    · exact h _ _ q2
    · exact q2.elim
  · exact q.elim
theorem de_kget {p : Pos} (T : KTab X.K X.w d tbl) (he : DE X e te) (hg : Gl X x) (hm : X.mg x = some (.ref d)) (hpl : PlainIx e) (hd : (x == ("__debug__" : Str)) = false := by decide) : DE X (.Subscript (.Name x p) e pos) (tdKGet tbl te) where
  mono := fun env S Q Q' h q => he.mono _ _ _ _ (fun c s q => by
    split at q
    · split at q
      · exact h _ _ q
      · exact q.elim
    · exact q.elim) q
  run := pe_imp (pe_ix (dix_k T) (de_kglob (p := p) hg hm hd).run he.run hpl) fun σ H Q ⟨env, S, hev, hst, q⟩ => lift2 (de_kglob (p := p) hg hm hd) he kgetR_mono (fun _ _ _ _ h => h) ⟨env, S, hev, hst, he.mono _ _ _ _ (fun c s q => by
    split at q
    · refine ⟨rfl, ?_⟩
      split at q
      · exact q
      · exact q.elim
    · exact q.elim) q⟩
end
end PL

namespace PL
open PySem PySem.Spec PyProof.Rows L2

/-! ### the promise that a body's reading makes -/
def mkSp (n : Nat) (N : List Str) (r : TSD) : SpD := fun ds S Q => ∃ Q0 : QD, (∀ d s, Q0 d s → Q d s) ∧ ds.length = n ∧ r { nx := fun _ S' => Q0 .non S', rt := Q0 } (envStart N ds) S
theorem mkSp_mono {n : Nat} {N : List Str} {r : TSD} : ∀ ds S (Q Q' : QD), (∀ d s, Q d s → Q' d s) → mkSp n N r ds S Q → mkSp n N r ds S Q' := fun ds S Q Q' h ⟨Q0, h0, q⟩ => ⟨Q0, fun d s z => h _ _ (h0 d s z), q⟩
theorem mkSp_of {n : Nat} {N : List Str} {r : TSD} {ds : List D} {S : Sto} {Q : QD} (hl : ds.length = n) (q : r { nx := fun _ S' => Q .non S', rt := Q } (envStart N ds) S) : mkSp n N r ds S Q := ⟨Q, fun _ _ h => h, hl, q⟩
/-- what a body's derivation may use of where it stands -/
structure Here (X : Cx) (k : Nat) : Prop where
  g : X.A.guards = some []
  r : Room k X.A
  u : X.A.units + 200 < cLine
section
variable {P : Program} {w : World} {K : PySem.W.Frag} {mg : Str → Option Value} {base : Heap}
theorem dfn_mk {k : Nat} {f : Addr} {fd : FuncData} {x qual : Str} {st : Stmt} {N ps : List Str} {r : TSD} (F : Fun K x qual st f fd) (Sc : FnScope N ps (defScope st))
    (body : ∀ (cdv : Value) (A : Around) (outer : List Env) (s : Shared) (H : Hp), Here ((cxOf CX0 P w K mg base N qual (defScope st) f cdv A outer s H E0).nox) k → DSs (cxOf CX0 P w K mg base N qual (defScope st) f cdv A outer s H E0).nox (defBody st) r) : DFn P w K mg base (k + 1) f fd ps (mkSp ps.length N r) := by
  refine dfn_of F Sc mkSp_mono (fun ds S Q h => h.choose_spec.2.1) fun cdv A outer s H hg hr => ?_
  have B := body cdv A outer s H ⟨hg, hr, by have := hr.un; show (A.deeper _).units + 200 < cLine; omega⟩
  exact ⟨r, B, fun ds S Q ⟨Q0, h0, _, q⟩ => B.mono { nx := fun _ S' => Q0 .non S', rt := Q0 } _ _ _ ⟨fun e s z => h0 _ _ z, h0, fun _ _ z => z, fun _ _ z => z⟩ q⟩
end

/-! ### what the top has written, as values -/
mutual
inductive KRep (K : PySem.W.Frag) : Value → D → Prop where
  | non : KRep K .none .non
  | bl (b : Bool) : KRep K (.bool b) (.bl b)
  | int (i : Int) (t : Tok) : KRep K (.int i t) (.int i)
  | str (x : Str) (t : Tok) : KRep K (.str x t) (.str x)
  | ref (a : Addr) : KRep K (.ref a) (.ref a)
  | ty (n : String) : KRep K (.type n) (.ty n)
  | tup {a : Addr} {o : Obj} {its : List Value} {ds : List D} {n : Nat} (h : K.lookup a = some o) (h1 : o.cls = .type "tuple") (h2 : o.data = .seq its.toArray n) (h3 : its.length ≤ 1000) (r : KReps K its ds) : KRep K (.ref a) (.tup ds)
inductive KReps (K : PySem.W.Frag) : List Value → List D → Prop where
  | nil : KReps K [] []
  | cons {u : Value} {d : D} {us : List Value} {ds : List D} (h : KRep K u d) (r : KReps K us ds) : KReps K (u :: us) (d :: ds)
end
theorem KReps.len {K : PySem.W.Frag} : ∀ {us : List Value} {ds : List D}, KReps K us ds → us.length = ds.length
  | _, _, .nil => rfl
  | _, _, .cons _ r => congrArg (· + 1) (KReps.len r)
mutual
theorem KRep.rep {K : PySem.W.Frag} : ∀ {u : Value} {d : D}, KRep K u d → ∃ v, RelV v u ∧ ∀ S H, RepD K S H d v
  | _, _, .non => ⟨.non, rfl, fun _ _ => .non⟩
  | _, _, .bl b => ⟨.bl b, rfl, fun _ _ => .bl b⟩
  | _, _, .int i t => ⟨.int i, ⟨t, rfl⟩, fun _ _ => .int i⟩
  | _, _, .str x t => ⟨.str x, ⟨t, rfl⟩, fun _ _ => .str x⟩
  | _, _, .ref a => ⟨.ref a, rfl, fun _ _ => .ref a⟩
  | _, _, .ty n => ⟨.ty n, rfl, fun _ _ => .ty n⟩
  | _, _, .tup (a := a) h h1 h2 h3 r => by
    obtain ⟨vs, hv, hr⟩ := KReps.rep r
    refine ⟨.ref a, rfl, fun S H => .tup (vs := vs) (.inr ⟨_, _, _, h, h1, h2, ?_, by simpa using hv⟩) (hr S H)⟩
    have : sizeLine = 16777216 := sizeLine_eq
    simp only [List.size_toArray]
    omega
theorem KReps.rep {K : PySem.W.Frag} : ∀ {us : List Value} {ds : List D}, KReps K us ds → ∃ vs, Vals vs us ∧ ∀ S H, RepDs K S H ds vs
  | _, _, .nil => ⟨[], .nil, fun _ _ => .nil⟩
  | _, _, .cons h r => by
    obtain ⟨v, h1, h2⟩ := KRep.rep h
    obtain ⟨vs, h3, h4⟩ := KReps.rep r
    exact ⟨v :: vs, .cons h1 h3, fun S H => .cons (h2 S H) (h4 S H)⟩
end
inductive EntsOk (K : PySem.W.Frag) : List DictEntry → List (Str × D) → Prop where
  | nil : EntsOk K [] []
  | cons {e : DictEntry} {es : List DictEntry} {x : Str} {c : D} {tbl : List (Str × D)} {t : Tok} (h : e.key = .str x t) (r : KRep K e.val c) (q : EntsOk K es tbl) : EntsOk K (e :: es) ((x, c) :: tbl)
theorem isStr_str (z x : Str) (t : Tok) : (Value.str x t).isStr z = (z == x) := by
  rw [PySem.W.isStr_of]
  by_cases h : z = x
  · subst h
    simp [Value.isStrOf]
  · rw [beq_eq_false_iff_ne.mpr h]
    simp [Value.isStrOf, Ne.symm h]
theorem EntsOk.find {K : PySem.W.Frag} (z : Str) : ∀ {es : List DictEntry} {tbl : List (Str × D)}, EntsOk K es tbl → (match es.find? (·.key.isStr z) with
    | some e => ∃ c, tbl.lookup z = some c ∧ KRep K e.val c
    | none => tbl.lookup z = none) ∧ es.any (·.refKey) = false
  | _, _, .nil => ⟨rfl, rfl⟩
  | _, _, .cons (e := e) (x := x) (c := c) h r q => by
    obtain ⟨h1, h2⟩ := EntsOk.find z q
    refine ⟨?_, ?_⟩
    · rw [List.find?_cons, h, isStr_str, List.lookup_cons]
      cases hz : z == x with
      | true => exact ⟨c, rfl, r⟩
      | false => exact h1
    · rw [List.any_cons, h2, Bool.or_false]
      unfold DictEntry.refKey
      rw [h]
theorem ktab_mk {K : PySem.W.Frag} {w : World} {d : Addr} {es : Array DictEntry} {n : Nat} {tbl : List (Str × D)} (l : K.lookup d = some ⟨.type "dict", none, .dict es n, #[]⟩) (k : PySem.W.KeysLit w.params es.toList) (nd : (d == sysModules) = false) (q : EntsOk K es.toList tbl) : KTab K w d tbl := by
  refine ⟨es, n, ⟨l, k, nd⟩, fun z => ?_⟩
  obtain ⟨h1, h2⟩ := q.find z
  unfold PySem.W.nsIn
  rw [l]
  simp only
  cases f : es.toList.find? (·.key.isStr z) with
  | some e =>
    rw [f] at h1
    obtain ⟨c, e1, e2⟩ := h1
    obtain ⟨v, r1, r2⟩ := e2.rep
    exact ⟨_, rfl, by rw [e1]; exact ⟨_, v, rfl, r1, r2⟩⟩
  | none =>
    rw [f] at h1
    refine ⟨none, by rw [h2]; rfl, by rw [h1]⟩

/-! ### a list that isn't changed any more is a value -/
section
variable {X : Cx} {pos : Pos} {e : Expr} {te : TED} {sts : List Stmt} {t : TSD}
def tdFreeze (i : Nat) (t : TSD) : TSD := fun De env S => match env[i]? with
  | some (some (.ref a)) => match lstAt S a with
    | some ds => t De (env.set i (some (.lst ds))) (sdel S a)
    | none => False
  | _ => False
theorem dss_freeze (i : Nat) (h : DSs X sts t) : DSs X sts (tdFreeze i t) where
  mono := fun De De' env S hle q => by
    unfold tdFreeze at q ⊢
    split at q
    · split at q
      · exact h.mono _ _ _ _ hle q
      · exact q.elim
    · exact q.elim
  run := pss_imp h.run fun D σ H ⟨env, S, he, hs, De, eu, q⟩ => by
    unfold tdFreeze at q
    split at q
    · rename_i a ea
      split at q
      · rename_i ds el
        obtain ⟨vs, h1, r1⟩ := sto_lst hs (lstAt_some el)
        obtain ⟨v, ev, rv⟩ := he.2 i _ ea
        cases rv
        have e1 : Ext S H (sdel S a) H := SLe.del.ext
        have he2 : RepEnv X.K (sdel S a) H (env.set i (some (.lst ds))) (σ.set i (some (.ref a))) := (he.ext e1).set (.lst sdel_same h1 (r1.ext e1))
        have hsame : σ.set i (some (.ref a)) = σ := by
          apply List.ext_getElem?
          intro j
          by_cases hj : i = j
          · subst hj
            rw [ev, List.getElem?_set_self (List.getElem?_eq_some_iff.mp ev).1]
          · rw [List.getElem?_set_ne hj]
        rw [hsame] at he2
        exact ⟨_, _, he2, SLe.del.rep hs, De, eu.ext e1, q⟩
      · exact q.elim
    · exact q.elim
/-- a list that is left alone -/
def tdForget (i : Nat) (t : TSD) : TSD := fun De env S => t De (env.set i none) S

/-! ### name op= e, o[i] op= e -/
structure DIp (X : Cx) (op : Operator) (f : Sto → D → D → PR) : Prop where
  run : PIp X op fun vx vy H Q => ∃ S x y, RepS X.K S H ∧ RepD X.K S H x vx ∧ RepD X.K S H y vy ∧ rdP f x y S (PL.up X.K S H Q)
theorem dip_add : DIp X .Add (intD (fun _ _ => True) fun i j => .int (i + j)) := ⟨fun pins s σ H vx vy v u Q I rx ry ⟨S, x, y, hs, r1, r2, q⟩ => by
  obtain ⟨c, d, e, hC, q⟩ := rdP_some q
  unfold intD at e
  split at e
  · cases e; cases r1; cases r2
    exact iop_add pins s σ H _ _ v u Q I rx ry ⟨_, _, rfl, rfl, q _ _ (.int _) hs Ext.refl⟩
  · cases e⟩
theorem dip_sub : DIp X .Sub (intD (fun _ _ => True) fun i j => .int (i - j)) := ⟨fun pins s σ H vx vy v u Q I rx ry ⟨S, x, y, hs, r1, r2, q⟩ => by
  obtain ⟨c, d, e, hC, q⟩ := rdP_some q
  unfold intD at e
  split at e
  · cases e; cases r1; cases r2
    exact iop_sub pins s σ H _ _ v u Q I rx ry ⟨_, _, rfl, rfl, q _ _ (.int _) hs Ext.refl⟩
  · cases e⟩
def tdAug (i : Nat) (te : TED) (f : Sto → D → D → PR) : TSD := fun De env S => match env[i]? with
  | some (some x) => te env S fun y S1 => rdP f x y S1 fun z S2 => De.nx (env.set i (some z)) S2
  | _ => False
theorem ds_aug {i : Nat} {x : Str} {op : Operator} {f : Sto → D → D → PR} {pos' : Pos} (hN : X.N.Nodup) (hi : X.N[i]? = some x) (hx : Loc X.env.scope x) (he : DE X e te) (ho : DIp X op f) (hf : X.fn x = true ∨ X.env.scope.names.lookup x = some .local := by first | exact .inl rfl | exact .inr rfl | assumption) :
    DS X (.AugAssign (.Name x pos') op e pos) (tdAug i te f) where
  mono := fun De De' env S h q => by
    unfold tdAug at q ⊢
    split at q
    · exact he.mono _ _ _ _ (fun y s q => rdP_mono _ _ _ _ _ (fun z s q => h.nx _ _ q) q) q
    · exact q.elim
  run := ps_imp (ps_aug hN hi hx he.run ho.run hf) fun D σ H ⟨env, S, hev, hst, De, eu, q⟩ => by
    unfold tdAug at q
    split at q
    · rename_i x ex
      obtain ⟨v, ev, rv⟩ := hev.2 i x ex
      refine ⟨v, ev, env, S, hev, hst, he.mono _ _ _ _ (fun y S1 q u H1 r s1 e1 => ⟨S1, x, y, s1, rv.ext e1, r, rdP_mono _ _ _ _ _ (fun z S2 q w H2 r2 s2 e2 => ?_) q⟩) q⟩
      exact eu.nx _ _ _ _ ((hev.ext (e1.trans e2)).set r2) s2 (e1.trans e2) q
    · exact q.elim
/-- name = [comprehension] -/
theorem ds_setLc {i : Nat} {y : Str} {py : Pos} {elt tg iter : Expr} {ifs : List Expr} {scope : Scope} {own : List (Str × Nat)} {spos : Pos} {w : TID} {pt : TPat} {tt : TTD} (hc : X.calm = true) (hN : X.N.Nodup) (hy : X.N[i]? = some y) (hyl : X.env.scope.names.lookup y = some .local)
    (hsw : swapsWith (.ListComp elt [⟨tg, iter, ifs, 0⟩] scope pos) (some (.Name y py)) spos.line X.env = pure true) (hi : DI X tg iter w) (ok : BlkOk X.N X.env.scope scope own) (hown : ∀ j ∈ slots pt, j ∈ own.map (·.2))
    (hg : ∀ (s : Shared) (H : Hp) (C : Addr) (cl : List (Str × Addr)) (fp : List Addr), DP (X.blk s H scope (compEnvC scope cl C X.env) fp) tg pt)
    (ht : ∀ (s : Shared) (H : Hp) (C : Addr) (cl : List (Str × Addr)) (fp : List Addr), DTs (X.blk s H scope (compEnvC scope cl C X.env) fp) ifs tt)
    (he : ∀ (s : Shared) (H : Hp) (C : Addr) (cl : List (Str × Addr)) (fp : List Addr), DE (X.blk s H scope (compEnvC scope cl C X.env) fp) elt te)
    (hs : ∀ x, foldedSetIterable iter X.env x = pure x := by intro _; rfl) : DS X (.Assign [.Name y py] (.ListComp elt [⟨tg, iter, ifs, 0⟩] scope pos) spos) (tdAsg (tdLc w pt tt te (own.map (·.2))) (.nm i)) where
  mono := tdAsg_mono (de_lc (pos := pos) hc hN hi ok hown hg ht he hs).mono
  run := ps_imp (ps_setLc hc hN hy hyl hsw hi.run ok (fun s H C cl fp => (hg s H C cl fp).run) (fun s H C cl fp => (ht s H C cl fp).run) (fun s H C cl fp => (he s H C cl fp).run) hs) fun D σ H ⟨env, S, hev, hst, De, eu, q⟩ => by
    have q2 : liftE X.K (tdLc w pt tt te (own.map (·.2))) σ H (fun v H1 => gName i v σ H1 D.nx) := ⟨env, S, hev, hst, (de_lc (pos := pos) hc hN hi ok hown hg ht he hs).mono _ _ _ _ (fun d S1 q v H1 r s1 e1 => eu.nx _ _ _ _ ((hev.ext e1).set r) s1 e1 q) q⟩
    exact lc_lift (ht X.s_0 X.H_0 0 [] []).mono (he X.s_0 X.H_0 0 [] []).mono hi.mono hown q2
end
end PL

namespace PL
open PySem PySem.Spec PyProof.Rows L2

/-! ### short names for the readings -/
abbrev subD := intD (fun _ _ => True) fun i j => .int (i - j)
abbrev fdivD := intD CFd fun i j => .int (i.fdiv j)
abbrev modD := intD (fun _ j => j ≠ 0) fun i j => .int (i.fmod j)
abbrev powD := intD CPow fun i j => .int (i ^ j.toNat)
abbrev ltD := ordD (fun i j => decide (i < j)) slt
abbrev leD := ordD (fun i j => decide (i ≤ j)) fun a b => !slt b a
abbrev gtD := ordD (fun i j => decide (j < i)) fun a b => slt b a
abbrev geD := ordD (fun i j => decide (j ≤ i)) fun a b => !slt a b
abbrev allD := qntD fun bs => bs.all id
abbrev anyD := qntD fun bs => bs.any id
abbrev iaddD := intD (fun _ _ => True) fun i j => .int (i + j)
theorem bt_int : bootBuiltins "int" = some (.type "int") := by decide +kernel
theorem bt_bool : bootBuiltins "bool" = some (.type "bool") := by decide +kernel
theorem bt_str : bootBuiltins "str" = some (.type "str") := by decide +kernel
theorem bt_list : bootBuiltins "list" = some (.type "list") := by decide +kernel
theorem bt_tuple : bootBuiltins "tuple" = some (.type "tuple") := by decide +kernel
theorem bt_dict : bootBuiltins "dict" = some (.type "dict") := by decide +kernel
theorem bt_set : bootBuiltins "set" = some (.type "set") := by decide +kernel
theorem bt_len : bootBuiltins "len" = some (.builtin "len") := by decide +kernel
theorem bt_all : bootBuiltins "all" = some (.builtin "all") := by decide +kernel
theorem bt_any : bootBuiltins "any" = some (.builtin "any") := by decide +kernel
theorem bt_sum : bootBuiltins "sum" = some (.builtin "sum") := by decide +kernel
theorem bt_repr : bootBuiltins "repr" = some (.builtin "repr") := by decide +kernel
theorem bt_ord : bootBuiltins "ord" = some (.builtin "ord") := by decide +kernel
theorem bt_isinstance : bootBuiltins "isinstance" = some (.builtin "isinstance") := by decide +kernel
theorem bt_sorted : bootBuiltins "sorted" = some (.builtin "sorted") := by decide +kernel
theorem bt_min : bootBuiltins "min" = some (.builtin "min") := by decide +kernel
theorem bt_max : bootBuiltins "max" = some (.builtin "max") := by decide +kernel

/-! ### dicts that are values -/
def keyEq : D → D → Bool
  | .int i, .int j => i == j
  | .str a, .str b => a == b
  | _, _ => false
def lookD : List D → List D → D → Option D
  | k :: ks, v :: vs, q => if keyEq k q = true then some v else lookD ks vs q
  | _, _, _ => none
def isK1 : D → Bool
  | .int _ => true
  | .str _ => true
  | _ => false
theorem keyEq_ky {d e : D} {k l : Key} (h : KyD d k) (h2 : KyD e l) : keyEq d e = decide (k = l) := by
  cases h with
  | int i =>
    cases h2 with
    | int j => rw [key_ll]; rfl
    | str y => rw [key_lr]; rfl
  | str x =>
    cases h2 with
    | int j => rw [key_rl]; rfl
    | str y =>
      rw [key_rr]
      show (x == y) = _
      by_cases e : x = y
      · subst e; simp
      · rw [decide_eq_false e]; exact beq_eq_false_iff_ne.mpr e
theorem ky_rep {K : PySem.W.Frag} {S : Sto} {H : Hp} {d : D} {v : V} (r : RepD K S H d v) (h : isK1 d = true) : ∃ k, KyD d k ∧ v = kV k := by
  cases r <;> first | exact ⟨_, .int _, rfl⟩ | exact ⟨_, .str _, rfl⟩ | (unfold isK1 at h; cases h)
theorem look_rep {K : PySem.W.Frag} {S : Sto} {H : Hp} {q : D} {k : Key} (hq : KyD q k) : ∀ {dk dv : List D} {ks : List Key} {vs : List V}, Paired KyD dk ks → RepDs K S H dv vs → ks.length = vs.length → match lookD dk dv q with
    | some d => ∃ v, valV (ks.zip vs) k = some v ∧ RepD K S H d v
    | none => valV (ks.zip vs) k = none
  | _, _, _, _, .nil, _, _ => by unfold lookD; rfl
  | _, _, _, _, .cons h t, .nil, l => by simp at l
  | _, _, _, _, .cons (a := d) (b := k2) h t, .cons hv tv, l => by
    unfold lookD
    rw [List.zip_cons_cons, keyEq_ky h hq]
    by_cases e : k2 = k
    · rw [if_pos (by simp [e])]
      exact ⟨_, valV_pos e, hv⟩
    · rw [if_neg (by simp [e]), valV_neg e]
      exact look_rep hq t tv (by simpa using l)
/-- a dict: a value, or one of the store -/
def getD' (S : Sto) : D → Option (List D × List D)
  | .dct ks vs => some (ks, vs)
  | .ref a => match S a with
    | some (.dct ks vs) => some (ks, vs)
    | _ => none
  | _ => none
theorem getD'_rep {K : PySem.W.Frag} {S : Sto} {H : Hp} {d : D} {v : V} {dk dv : List D} (hs : RepS K S H) (r : RepD K S H d v) (e : getD' S d = some (dk, dv)) :
    ∃ a ks vs, v = .ref a ∧ H a = some (.dK (ks.zip vs)) ∧ ks.length = vs.length ∧ Paired KyD dk ks ∧ RepDs K S H dv vs := by
  unfold getD' at e
  split at e
  · cases e
    cases r with
    | dctK n h l k r => exact ⟨_, _, _, rfl, h, l, k, r⟩
  · split at e
    · cases e
      rename_i q
      obtain ⟨u, h1, h2⟩ := hs _ _ q
      cases r
      cases h2 with
      | dK l k r => exact ⟨_, _, _, rfl, h1, l, k, r⟩
    · cases e
  · cases e
section
variable {X : Cx} {pos : Pos} {o e f : Expr} {es : List Expr} {to te tf : TED} {t : TAD}
/-- d.get(e, f), keys ints and texts -/
def tdGet2 (to te tf : TED) : TED := fun env S Q => to env S fun x S1 => (getD' S1 x).isSome = true ∧ te env S1 fun k S2 => tf env S2 fun z S3 => match getD' S3 x with
  | some (ks, vs) => isK1 k = true ∧ Q ((lookD ks vs k).getD z) S3
  | none => False
theorem isD_rep {K : PySem.W.Frag} {S : Sto} {H : Hp} {d : D} {v : V} (hs : RepS K S H) (r : RepD K S H d v) (e : (getD' S d).isSome = true) : ∃ a, v = .ref a ∧ IsD H a := by
  obtain ⟨⟨dk, dv⟩, e⟩ := Option.isSome_iff_exists.mp e
  obtain ⟨a, ks, vs, rfl, h, _⟩ := getD'_rep hs r e
  exact ⟨a, rfl, .inl ⟨_, .inl h⟩⟩
theorem tdGet2_mono (ho : DE X o to) (he : DE X e te) (hf : DE X f tf) : ∀ env S (Q Q' : QD), (∀ d s, Q d s → Q' d s) → tdGet2 to te tf env S Q → tdGet2 to te tf env S Q' :=
  fun env S Q Q' h q => ho.mono _ _ _ _ (fun x s q => ⟨q.1, he.mono _ _ _ _ (fun k s q => hf.mono _ _ _ _ (fun z s q => by
    split at q
    · exact ⟨q.1, h _ _ q.2⟩
    · exact q.elim) q) q.2⟩) q
/-- the keys are ints and texts: told of the dict's own kind -/
theorem de_get2 {apos : Pos} (hu : X.A.units + 200 < cLine) (ho : DE X o to) (he : DE X e te) (hf : DE X f tf) (m : M2 X o "get" apos e f pos) : DE X (.Call (.Attribute o "get" apos) [e, f] [] pos) (tdGet2 to te tf) where
  mono := tdGet2_mono ho he hf
  run := pe_imp (pe_dget2 (by omega) ho.run he.run hf.run m) fun σ H Q ⟨env, S, hev, hst, q⟩ => ⟨env, S, hev, hst, ho.mono _ _ _ _ (fun x S1 q v H1 r1 s1 e1 => by
    obtain ⟨q0, q⟩ := q
    obtain ⟨a, rfl, hd⟩ := isD_rep s1 r1 q0
    refine ⟨a, rfl, hd, env, S1, hev.ext e1, s1, he.mono _ _ _ _ (fun k S2 q v2 H2 r2 s2 e2 => ⟨env, S2, hev.ext (e1.trans e2), s2, hf.mono _ _ _ _ (fun z S3 q v3 H3 r3 s3 e3 => ?_) q⟩) q⟩
    split at q
    · rename_i ks vs eg
      obtain ⟨hk, q⟩ := q
      have e23 := e2.trans e3
      obtain ⟨kk, hky, rfl⟩ := ky_rep r2 hk
      obtain ⟨a', ks', vs', ea, h, l, pk, rv⟩ := getD'_rep s3 (r1.ext e23) eg
      cases ea
      refine ⟨_, .inl ⟨_, kk, .inl h, rfl, rfl⟩, ?_⟩
      have hl := look_rep hky pk rv l
      cases hq : lookD ks vs k with
      | some d =>
        rw [hq] at hl q
        obtain ⟨w, ew, rw'⟩ := hl
        rw [ew]
        exact q w H3 rw' s3 ((e1.trans e2).trans e3)
      | none =>
        rw [hq] at hl q
        rw [hl]
        exact q v3 H3 r3 s3 ((e1.trans e2).trans e3)
    · exact q.elim) q⟩

/-! ### {"x": e, ..} with written texts for keys -/
structure DPPs (X : Cx) (pos : Pos) (keys : List (Option Expr)) (values : List Expr) (xs : List Str) (t : TAD) : Prop where
  mono : ∀ env S (Q Q' : List D → Sto → Prop), (∀ d s, Q d s → Q' d s) → t env S Q → t env S Q'
  run : ∃ trs, PPs X pos keys values trs ∧ ∀ σ H (Q : List (V × V) → Hp → Prop), (∃ env S, RepEnv X.K S H env σ ∧ RepS X.K S H ∧ t env S fun ds S' => ds.length = xs.length ∧ ∀ vs H', RepDs X.K S' H' ds vs → RepS X.K S' H' → Ext S H S' H' → Q ((xs.map V.str).zip vs) H') → tPairs trs σ H Q
theorem dpp_nil : DPPs X pos [] [] [] tdNil where
  mono := fun env S Q Q' h q => h _ _ q
  run := ⟨[], pps_nil, fun σ H Q ⟨env, S, he, hs, _, q⟩ => q [] H .nil hs Ext.refl⟩
theorem dpp_cons {x : Str} {i : Nat} {p : Pos} {keys : List (Option Expr)} {values : List Expr} {xs : List Str} (he : DE X e te) (hr : DPPs X pos keys values xs t) : DPPs X pos (some (.Constant (.str x) i p) :: keys) (e :: values) (x :: xs) (tdCons te t) where
  mono := fun env S Q Q' h q => he.mono _ _ _ _ (fun x s q => hr.mono _ _ _ _ (fun xs s q => h _ _ q) q) q
  run := by
    obtain ⟨trs, h1, h2⟩ := hr.run
    refine ⟨(tC (.str x), liftE X.K te) :: trs, pps_cons pe_str he.run h1, fun σ H Q ⟨env, S, hev, hst, q⟩ => ?_⟩
    refine ⟨env, S, hev, hst, he.mono _ _ _ _ (fun d S1 q1 v1 H1 r1 s1 e1 => h2 σ H1 _ ⟨env, S1, hev.ext e1, s1, hr.mono _ _ _ _ (fun ds S2 q2 => ?_) q1⟩) q⟩
    obtain ⟨hl, q2⟩ := q2
    exact ⟨by simpa using hl, fun vs H2 r2 s2 e2 => q2 (v1 :: vs) H2 (.cons (r1.ext e2) r2) s2 (e1.trans e2)⟩
def tdDisp (xs : List Str) (t : TAD) : TED := fun env S Q => ∀ p, S p = none → t env (sup S p (.dct [] [])) fun ds S2 => ds.length = xs.length ∧ S2 p = some (.dct [] []) ∧ Q (.dct (xs.map D.str) ds) (sdel S2 p)
theorem merge_nodup : ∀ (more acc : List (Key × V)), ((acc ++ more).map (·.1)).Nodup → mergeK acc more = acc ++ more
  | [], acc, _ => by unfold mergeK; simp
  | kv :: r, acc, h => by
    have h1 : ¬ (acc.any fun p => decide (p.1 = kv.1)) = true := by
      rw [List.any_eq_true]
      rintro ⟨p, hp, e⟩
      have e' := of_decide_eq_true e
      rw [List.map_append, List.nodup_append] at h
      exact h.2.2 p.1 (List.mem_map_of_mem hp) kv.1 (by simp) e'
    have h2 : mergeK acc (kv :: r) = mergeK (acc ++ [kv]) r := by
      unfold mergeK
      rw [List.foldl_cons]
      unfold putK
      rw [if_neg h1]
    rw [h2, merge_nodup r (acc ++ [kv]) (by simpa using h)]
    simp
theorem de_disp {keys : List (Option Expr)} {values : List Expr} {xs : List Str} (h : DPPs X pos keys values xs t) (hx : xs.Nodup) (h15 : xs.length ≤ 15) (hall : keys.all (·.isSome) = true := by rfl) (hl : keys.length = values.length := by rfl) (h0 : keys ≠ [] := by exact fun z => nomatch z)
    (hk15 : keys.length ≤ 15 := by decide) : DE X (.Dict keys values pos) (tdDisp xs t) where
  mono := fun env S Q Q' hq q p n => h.mono _ _ _ _ (fun ds s q => ⟨q.1, q.2.1, hq _ _ q.2.2⟩) (q p n)
  run := by
    obtain ⟨trs, h1, h2⟩ := h.run
    refine pe_imp (pe_disp h1 hall hl h0 hk15) fun σ H Q ⟨env, S, hev, hst, q⟩ => ?_
    intro p hp
    have ep : Ext S H (sup S p (.dct [] [])) (upd H p (.dK [])) := Ext.newS hp
    have sp : RepS X.K (sup S p (.dct [] [])) (upd H p (.dK [])) := hst.newS hp (.dK (ks := []) (vs := []) rfl .nil .nil)
    refine h2 σ _ _ ⟨env, _, hev.ext ep, sp, h.mono _ _ _ _ (fun ds S2 q2 => ?_) (q p (hst.free hp))⟩
    obtain ⟨hl2, q3, q4⟩ := q2
    refine ⟨hl2, fun vs H2 r2 s2 e2 => ?_⟩
    obtain ⟨u, g1, g2⟩ := s2 p _ q3
    have hlen := r2.len
    have g3 : H2 p = some (.dK []) := by
      cases g2 with
      | dK l k r =>
        cases r
        cases k
        exact g1
    refine ⟨g3, (xs.map Sum.inr).zip vs, ?_, by simp; omega, ?_⟩
    · have : ∀ (xs : List Str) (vs : List V), (xs.map V.str).zip vs = ((xs.map (Sum.inr : Str → Key)).zip vs).map fun kv => (kV kv.1, kv.2) := by
        intro xs
        induction xs with
        | nil => intro vs; rfl
        | cons x r ih =>
          intro vs
          cases vs with
          | nil => rfl
          | cons v vs => simp [ih vs, kV]
      exact this xs vs
    · have hm : mergeK [] ((xs.map (Sum.inr : Str → Key)).zip vs) = (xs.map Sum.inr).zip vs := by
        rw [merge_nodup _ _ ?_, List.nil_append]
        rw [List.nil_append]
        have : ((xs.map (Sum.inr : Str → Key)).zip vs).map (·.1) = xs.map Sum.inr := by
          rw [List.map_fst_zip]
          simp; omega
        rw [this]
        exact List.Pairwise.map _ (fun a b hab e => hab (Sum.inr.inj e)) hx
      rw [hm]
      have e3 : Ext S2 H2 (sdel S2 p) (upd H2 p (.dK ((xs.map Sum.inr).zip vs))) := fun a u ha hu => by
        have hne : a ≠ p := fun e => by subst e; rw [q3] at ha; cases ha
        rw [upd_ne hne, sdel_ne hne]
        exact ⟨hu, ha⟩
      have kys : Paired KyD (xs.map D.str) (xs.map (Sum.inr : Str → Key)) := by
        have : ∀ xs : List Str, Paired KyD (xs.map D.str) (xs.map (Sum.inr : Str → Key)) := fun xs => by
          induction xs with
          | nil => exact .nil
          | cons x r ih => exact .cons (.str x) ih
        exact this xs
      have s3 : RepS X.K (sdel S2 p) (upd H2 p (.dK ((xs.map Sum.inr).zip vs))) := fun a o ea => by
        have hne : a ≠ p := fun e => by subst e; rw [sdel_same] at ea; cases ea
        rw [sdel_ne hne] at ea
        obtain ⟨u, b1, b2⟩ := s2 a o ea
        exact ⟨u, by rw [upd_ne hne]; exact b1, b2.ext e3⟩
      exact q4 (.ref p) _ (.dctK sdel_same upd_same (by simp; omega) kys (r2.ext e3)) s3 ((ep.trans e2).trans e3)
/-- {} -/
def tdDict0 : TED := fun _ S Q => Q (.dct [] []) S
theorem de_dict0 : DE X (.Dict [] [] pos) tdDict0 where
  mono := fun env S Q Q' h q => h _ _ q
  run := pe_imp pe_dnewK fun σ H Q ⟨env, S, he, hs, q⟩ p n => q (.ref p) _ (.dctK (ks := []) (vs := []) (hs.free n) upd_same rfl .nil .nil) (hs.new n) (Ext.new n)
end
end PL

namespace PL
open PySem PySem.Spec PyProof.Rows L2
section
variable {X : Cx}
/-- sum of a tuple of ints -/
theorem sum_tup_raw {prog : Program} {w : World} {A : Around} {E : Value → Shared → Prop} {s : Shared} {a : Addr} {its : List Value} {ns : List Int} {Q : Value → Shared → Prop} (hh : A.handled = none) (ht : IsTup s.heap a its.toArray) (hi : IntsAre its ns)
    (h : ∀ h' tk t', (∀ b o, s.heap.get? b = some o → h'.get? b = some o) → Q (.int ns.sum t') { s with heap := h', toks := tk }) : wpAny (model prog w) A (call (.builtin "sum") [.ref a]) Q E s := by
  obtain ⟨xs, e⟩ := hi.allInts.items
  have hn : numsOf (intItems xs).toList = ns := by rw [← e]; exact hi.numsOf
  rw [nums_intItems] at hn
  have hlt : a < s.heap.objs.size := by obtain ⟨o, e1, _⟩ := ht; exact Heap.lt_size e1
  refine PySem.call_sum_walkG (wpAny_pyIter_tuple (items := its.toArray) ht ?_)
  have ht2 := ht
  obtain ⟨o, e1, e2, n, e3⟩ := ht2
  refine ⟨s.heap.objs.size, [s.heap.objs.size, a], [s.heap.objs.size], its.toArray.size, _, _, numAt xs, rfl, PySem.Walks.tuple (A := A.in1) hh s.heap.objs.size a (Nat.ne_of_lt hlt) its.toArray, ⟨⟨_, Heap.get?_push_size _ rfl, rfl, rfl⟩, ⟨o, Heap.get?_push_of_some _ e1, e2, n, e3⟩⟩, ?_, ?_, fun h' tk t' hk => ?_⟩
  · intro b hb
    rcases List.mem_cons.mp hb with rfl | hb
    · exact Heap.lt_size (Heap.get?_push_size _ rfl)
    · rw [List.mem_singleton] at hb
      subst hb
      exact Heap.lt_size (Heap.get?_push_of_some _ e1)
  · intro i v hv
    rw [e] at hv
    exact intItems_at hv
  · have hz : its.toArray.size = xs.size := by rw [e]; simp [intItems]
    rw [hz, preSum_eq, List.take_of_length_le (by simp), hn]
    refine h h' tk t' fun b o hb => hk b o ?_ (Heap.get?_push_of_some _ hb)
    rw [List.mem_singleton]
    exact Nat.ne_of_lt (Heap.lt_size hb)
def sumT : Sto → List D → PR := fun S ds => match ds with
  | [.tup xs] => match asI xs with
    | some ns => some (True, .int ns.sum)
    | none => none
  | _ => none
theorem dcal_sumT (hc : X.calm = true) : DCal X (.builtin "sum") (rdC sumT) := dcal_P fun pins s σ H vs us Q S ds c d I rv hs r e hC q => by
  unfold sumT at e
  split at e
  · split at e
    · rename_i ns en
      cases e
      obtain ⟨v, rfl, r1⟩ := r.one_inv
      cases r1 with
      | tup h r2 =>
        obtain rfl := asI_rep r2 en
        obtain ⟨its, rv2, ht, _⟩ := I.tuple h.sq
        rw [Vals.ref1 rv]
        exact sum_tup_raw (I.ok.hd hc) ht rv2.ints fun h' tk t' hk => ⟨.int _, H, I.kept hk, ⟨_, rfl⟩, q _ _ (.int _) hs Ext.refl⟩
    · cases e
  · cases e
/-- a text so many times -/
def mulS : Sto → D → D → PR := fun _ x y => match x, y with
  | .str a, .int n => some (0 ≤ n ∧ n ≤ 1000 ∧ a.length ≤ 1000, .str (Txt.mul a n))
  | _, _ => none
theorem dop_mulS : DOp X (binaryOp .Mult) (rdP mulS) :=
  dop_P fun pins s σ H vx vy v u Q S x y c d I rx ry hs r1 r2 e hC q => by
    unfold mulS at e
    split at e
    · cases e; cases r1; cases r2
      obtain ⟨t1, rfl⟩ := rx
      obtain ⟨t2, rfl⟩ := ry
      refine SB.mul ?_ fun t' k => ⟨.str _, H, I.tok _, ⟨_, rfl⟩, q _ _ (.str _) hs Ext.refl⟩
      rename_i a n
      obtain ⟨h1, h2, h3⟩ := hC
      refine ⟨?_, fun h4 _ => ?_, fun h4 _ => ?_⟩
      · rw [decide_eq_false (by omega), decide_eq_false (by omega)]; rfl
      · have hn : 1 ≤ n := by omega
        have : (2 ^ 63 - 1) / n ≥ (2 ^ 63 - 1) / 1000 := by
          apply Int.le_ediv_of_mul_le (by omega)
          have e1 : ((2 : Int) ^ 63 - 1) / 1000 = 9223372036854775 := by decide
          rw [e1]
          have : (9223372036854775 : Int) * n ≤ 9223372036854775 * 1000 := by omega
          omega
        have e1 : ((2 : Int) ^ 63 - 1) / 1000 = 9223372036854775 := by decide
        omega
      · have h5 : a.length * n.toNat ≤ 1000 * 1000 := Nat.mul_le_mul h3 (by omega)
        unfold Builtin.Str.tooLong
        have hs2 : sizeLine = 16777216 := sizeLine_eq
        simp only [decide_eq_false_iff_not]
        omega
    · cases e
end
end PL

namespace PL
open PySem PySem.Spec PyProof.Rows L2

/-! ### reading readings: one step each, from behind -/
section
variable {env e' : Env'} {S S1 : Sto} {Q : QD} {i n m : Nat} {d x y : D} {ds : List D} {ta tb te tf to tl : TED} {t tk : TAD} {c u : TTD} {st su : TSD} {nx bk ct : Env' → Sto → Prop} {rt : QD} {De : EndsD} {QB : Bool → Sto → Prop} {QL : List D → Sto → Prop} {b : Bool} {cc : Prop} {k : Int} {p : TPat} {a : Addr}
theorem p_var (e : env[i]? = some (some d)) (q : Q d S) : tdVar i env S Q := by unfold tdVar; rw [e]; exact q
theorem p_c (q : Q d S) : tdC d env S Q := q
theorem p_op {rd : D → D → Sto → QD → Prop} (q : ta env S fun x S1 => tb env S1 fun y S2 => rd x y S2 Q) : tdOp rd ta tb env S Q := q
theorem p_r {f : Sto → D → D → PR} (e : f S x y = some (cc, d)) (h : cc) (q : Q d S) : rdP f x y S Q := by unfold rdP; rw [e]; exact ⟨h, q⟩
theorem p_un {rd : D → Sto → QD → Prop} (q : ta env S fun x S1 => rd x S1 Q) : tdUn rd ta env S Q := q
theorem p_neg (q : Q (.int (-k)) S) : rdNeg (.int k) S Q := q
theorem p_cb {rd : List D → Sto → QD → Prop} (q : t env S fun ds S1 => rd ds S1 Q) : tdCB rd t env S Q := q
theorem p_rc {f : Sto → List D → PR} (e : f S ds = some (cc, d)) (h : cc) (q : Q d S) : rdC f ds S Q := by unfold rdC; rw [e]; exact ⟨h, q⟩
theorem p_nil (q : QL [] S) : tdNil env S QL := q
theorem p_cons (q : te env S fun x S1 => t env S1 fun xs S2 => QL (x :: xs) S2) : tdCons te t env S QL := q
theorem p_tup (q : t env S fun ds S1 => ds.length ≤ sizeLine ∧ Q (.tup ds) S1) : tdTup t env S Q := q
theorem p_lst (q : t env S fun ds S1 => ds.length ≤ sizeLine ∧ Q (.lst ds) S1) : tdLst t env S Q := q
theorem p_lstR (q : t env S fun ds S1 => ds.length ≤ sizeLine ∧ ∀ p, S1 p = none → Q (.ref p) (sup S1 p (.lst ds))) : tdLstR t env S Q := q
theorem szl {n : Nat} (h : n ≤ 10000 := by first | exact Nat.le_of_ble_eq_true rfl | (simp; done) | (simp; omega)) : n ≤ sizeLine := Nat.le_trans h (by rw [sizeLine_eq]; decide)
theorem p_b (q : te env S (qb QB)) : tdB te env S QB := q
theorem p_qb (q : QB b S) : qb QB (.bl b) S := q
theorem p_and (q : c env S fun k S1 => if k = true then u env S1 QB else QB false S1) : tdAnd c u env S QB := q
theorem p_or (q : c env S fun k S1 => if k = true then QB true S1 else u env S1 QB) : tdOr c u env S QB := q
theorem p_not (q : c env S fun k S1 => QB (!k) S1) : tdNot c env S QB := q
theorem p_andV (q : ta env S (qb fun k S1 => if k = true then tb env S1 Q else Q (.bl false) S1)) : tdAndV ta tb env S Q := q
theorem p_orV (q : ta env S (qb fun k S1 => if k = true then Q (.bl true) S1 else tb env S1 Q)) : tdOrV ta tb env S Q := q
theorem p_notV (q : ta env S (qb fun k S1 => Q (.bl (!k)) S1)) : tdNotV ta env S Q := q
theorem p_if (q : c env S fun k S1 => if k = true then ta env S1 Q else tb env S1 Q) : tdIf c ta tb env S Q := q
theorem p_T {A B : Prop} (e : b = true) (q : A) : if b = true then A else B := by rw [if_pos e]; exact q
theorem p_F {A B : Prop} (e : b = false) (q : B) : if b = true then A else B := by rw [if_neg (by rw [e]; exact Bool.false_ne_true)]; exact q
theorem p_ite {A B : Prop} (q1 : b = true → A) (q2 : b = false → B) : if b = true then A else B := by
  cases b with
  | true => rw [if_pos rfl]; exact q1 rfl
  | false => rw [if_neg Bool.false_ne_true]; exact q2 rfl
theorem p_iteD {P : Prop} [Decidable P] {A B : Prop} (q1 : P → A) (q2 : ¬ P → B) : if decide P = true then A else B := p_ite (fun h => q1 (of_decide_eq_true h)) fun h => q2 (of_decide_eq_false h)
theorem p_next (q : nx env S) : tdNext ⟨nx, rt, bk, ct⟩ env S := q
theorem p_seq (q : st ⟨su ⟨nx, rt, bk, ct⟩, rt, bk, ct⟩ env S) : tdSeq st su ⟨nx, rt, bk, ct⟩ env S := q
theorem p_break (q : bk env S) : tdBreak ⟨nx, rt, bk, ct⟩ env S := q
theorem p_cont (q : ct env S) : tdCont ⟨nx, rt, bk, ct⟩ env S := q
theorem p_drop (q : te env S fun _ S1 => nx env S1) : tdDrop te ⟨nx, rt, bk, ct⟩ env S := q
theorem p_ret (q : te env S rt) : tdRet te ⟨nx, rt, bk, ct⟩ env S := q
theorem p_retN (q : rt .non S) : tdRetN ⟨nx, rt, bk, ct⟩ env S := q
theorem p_ifS (q : c env S fun b S1 => if b = true then st ⟨nx, rt, bk, ct⟩ env S1 else su ⟨nx, rt, bk, ct⟩ env S1) : tdIfS c st su ⟨nx, rt, bk, ct⟩ env S := q
/-- the binding of a target, ahead -/
def pAsg (p : TPat) (env : Env') (nx : Env' → Sto → Prop) : QD := fun d S => ∃ e', bindD p d env = some e' ∧ nx e' S
theorem p_asg (m : ∀ Q Q' : QD, (∀ d s, Q d s → Q' d s) → te env S Q → te env S Q') (q : te env S (pAsg p env nx)) : tdAsg te p ⟨nx, rt, bk, ct⟩ env S := m _ _ (fun d s ⟨e', h1, h2⟩ => by rw [h1]; exact h2) q
theorem p_asg' (q : te env S fun d S1 => match bindD p d env with
  | some env' => nx env' S1
  | none => False) : tdAsg te p ⟨nx, rt, bk, ct⟩ env S := q
theorem p_bindM {A : Env' → Prop} (e : bindD p d env = some e') (q : A e') : match bindD p d env with
  | some env' => A env'
  | none => False := by rw [e]; exact q
theorem p_par {vs : List Nat} (q : t env S fun ds S1 => ds.length = vs.length ∧ nx ((vs.zip ds).foldl (fun e p => e.set p.1 (some p.2)) env) S1) : tdPar vs t ⟨nx, rt, bk, ct⟩ env S := q
/-- an item of a list of the store -/
theorem p_ixS {xs : List D} (h : S a = some (.lst xs)) (e : atI xs k = some d) (q : Q d S) : rdP ixD (.ref a) (.int k) S Q := p_r (cc := True) (by unfold ixD; simp only [getQ, h, e]) trivial q
theorem p_ixQ {xs : List D} (h : getQ S x = some xs) (e : atI xs k = some d) (q : Q d S) : rdP ixD x (.int k) S Q := p_r (cc := True) (by unfold ixD; simp only [h, e]) trivial q
def pSet (S : Sto) (d x y : D) (nx : Sto → Prop) : Prop := match x, y with
  | .ref a, .int k => match S a with
    | some (.lst ds) => match ixN ds.length k with
      | some j => nx (sup S a (.lst (ds.set j d)))
      | none => False
    | _ => False
  | _, _ => False
theorem p_setI (q : te env S fun d S1 => to env S1 fun x S2 => tf env S2 fun y S3 => pSet S3 d x y fun S4 => nx env S4) : tdSetI te to tf ⟨nx, rt, bk, ct⟩ env S := q
theorem p_set {xs : List D} {j : Nat} {N : Sto → Prop} (h : S a = some (.lst xs)) (e : ixN xs.length k = some j) (q : N (sup S a (.lst (xs.set j d)))) : pSet S d (.ref a) (.int k) N := by
  unfold pSet
  simp only [h, e]
  exact q
theorem p_call {sp : SpD} {dds : List D} (q : t env S fun ds S1 => sp (ds ++ dds) S1 Q) : tdCall sp dds t env S Q := q
theorem p_callK {sp : SpD} {pm : List Nat} {dds : List D} (q : t env S fun ds S1 => tk env S1 fun zs S2 => ds.length = n ∧ zs.length = m ∧ sp (pick pm (ds ++ zs ++ dds)) S2 Q) : tdCallK sp n m pm dds t tk env S Q := q
theorem p_noPart {QO : Option Int → Sto → Prop} (q : QO none S) : tdNoPart env S QO := q
def pPart (QO : Option Int → Sto → Prop) : QD := fun d S1 => match d with
  | .int i => QO (some i) S1
  | _ => False
theorem p_part {QO : Option Int → Sto → Prop} (q : te env S (pPart QO)) : tdPart te env S QO := q
theorem p_partI {QO : Option Int → Sto → Prop} (q : QO (some k) S) : pPart QO (.int k) S := q
theorem p_sl {to' th : TOD} (q : te env S fun x S1 => to' env S1 fun lo S2 => th env S2 fun hi S3 => onP (slD lo hi S3 x) S3 Q) : tdSl te to' th env S Q := q
theorem p_onP (h : cc) (q : Q d S) : onP (some (cc, d)) S Q := ⟨h, q⟩
theorem p_onE {o : PR} (e : o = some (cc, d)) (h : cc) (q : Q d S) : onP o S Q := by rw [e]; exact ⟨h, q⟩
def pKIn (neg : Bool) (tbl : List (Str × D)) (Q : QD) : QD := fun c S1 => match c with
  | .str z => Q (.bl (if neg then !(tbl.lookup z).isSome else (tbl.lookup z).isSome)) S1
  | _ => False
theorem p_kin {neg : Bool} {tbl : List (Str × D)} (q : te env S (pKIn neg tbl Q)) : tdKIn neg tbl te env S Q := q
theorem p_kinS {neg : Bool} {tbl : List (Str × D)} {z : Str} (e : (if neg then !(tbl.lookup z).isSome else (tbl.lookup z).isSome) = b) (q : Q (.bl b) S) : pKIn neg tbl Q (.str z) S := by
  subst e; exact q
def pKGet (tbl : List (Str × D)) (Q : QD) : QD := fun c S1 => match c with
  | .str z => match tbl.lookup z with
    | some r => Q r S1
    | none => False
  | _ => False
theorem p_kget {tbl : List (Str × D)} (q : te env S (pKGet tbl Q)) : tdKGet tbl te env S Q := q
theorem p_kgetS {tbl : List (Str × D)} {z : Str} (e : tbl.lookup z = some d) (q : Q d S) : pKGet tbl Q (.str z) S := by
  show (match tbl.lookup z with | some r => Q r S | none => False)
  rw [e]; exact q
theorem p_lm {g : LM} (q : to env S fun x S1 => lmObj x S1 fun a => t env S1 fun args S2 => lmEnd g a args S2 Q) : tdLm g to t env S Q := q
theorem p_lmO {N : Addr → Prop} {xs : List D} (h : S a = some (.lst xs)) (q : N a) : lmObj (.ref a) S N := ⟨by unfold lstAt; rw [h]; rfl, q⟩
theorem p_lmE {g : LM} {args xs ys : List D} (h : S a = some (.lst xs)) (e : g S xs args = some (cc, ys, d)) (hc : cc) (q : Q d (sup S a (.lst ys))) : lmEnd g a args S Q := by
  unfold lmEnd lstAt
  simp only [h, e]
  exact ⟨hc, q⟩
theorem p_freeze {xs : List D} (e : env[i]? = some (some (.ref a))) (h : S a = some (.lst xs)) (q : st De (env.set i (some (.lst xs))) (sdel S a)) : tdFreeze i st De env S := by
  unfold tdFreeze lstAt
  simp only [e, h]
  exact q
theorem p_for {w : TID} (q : w env S fun ds S1 => forD p st ds De env S1) : tdFor w p st De env S := q
def pSeqV (QL : List D → Sto → Prop) : QD := fun d S1 => match seqV d with
  | some ds => QL ds S1
  | none => False
theorem p_seqI (q : te env S (pSeqV QL)) : tdSeqI te env S QL := q
theorem p_seqL (q : QL ds S) : pSeqV QL (.lst ds) S := q
theorem p_seqT (q : QL ds S) : pSeqV QL (.tup ds) S := q
def pRng1 (QL : List D → Sto → Prop) : List D → Sto → Prop := fun ds S1 => match ds with
  | [.int j] => rng1 j ∧ QL (upto 0 j.toNat) S1
  | _ => False
theorem p_rng1 (q : t env S (pRng1 QL)) : tdRng1 t env S QL := q
theorem p_rng1I (h : rng1 k) (q : QL (upto 0 k.toNat) S) : pRng1 QL [.int k] S := ⟨h, q⟩
theorem p_yes (q : QB true S) : tdYes env S QB := q
theorem p_dispS {xs : List Str} (q : ∀ p, S p = none → t env (sup S p (.dct [] [])) fun ds S2 => ds.length = xs.length ∧ S2 p = some (.dct [] []) ∧ Q (.dct (xs.map D.str) ds) (sdel S2 p)) : tdDisp xs t env S Q := q
/-- a for with a word that holds ahead of each turn -/
theorem for_inv {ds : List D} (I : Nat → Env' → Sto → Prop) (h0 : I 0 env S)
    (hs : ∀ i d env S nx, ds[i]? = some d → I i env S → (∀ e s, I (i + 1) e s → nx e s) → ∃ e', bindD p d env = some e' ∧ st ⟨nx, De.rt, De.nx, nx⟩ e' S)
    (he : ∀ env S, I ds.length env S → De.nx env S) : forD p st ds De env S := by
  have key : ∀ (r : List D) (i : Nat) (env : Env') (S : Sto), r = ds.drop i → i ≤ ds.length → I i env S → forD p st r De env S := by
    intro r
    induction r with
    | nil =>
      intro i env S e hi h
      have : i = ds.length := by
        have := congrArg List.length e
        rw [List.length_drop, List.length_nil] at this
        omega
      subst this
      exact he _ _ h
    | cons d r ih =>
      intro i env S e hi h
      have hl : i < ds.length := by
        have := congrArg List.length e
        rw [List.length_drop, List.length_cons] at this
        omega
      have e2 := List.drop_eq_getElem_cons hl
      rw [← e] at e2
      cases e2
      obtain ⟨e', h1, h2⟩ := hs i _ env S (forD p st (ds.drop (i + 1)) De) (List.getElem?_eq_getElem hl) h fun e s q => ih (i + 1) e s rfl hl q
      unfold forD
      rw [h1]
      exact h2
  exact key ds 0 env S (by simp) (Nat.zero_le _) h0
/-- a comprehension with a word on what it has made -/
theorem lcGo_inv {p : Addr} {step : D → Sto → (Option D → Sto → Prop) → Prop} {Q : List D → Sto → Prop} (I : Nat → List D → Sto → Prop) (xs : List D)
    (hs : ∀ i x acc S k, xs[i]? = some x → I i acc S → S p = some (.lst acc) → (∀ y S1, S1 p = some (.lst acc) → acc.length < sizeLine → I (i + 1) (acc ++ [y]) (sup S1 p (.lst (acc ++ [y]))) → k (some y) S1) → (∀ S1, S1 p = some (.lst acc) → I (i + 1) acc S1 → k none S1) → step x S k)
    (he : ∀ acc S, I xs.length acc S → S p = some (.lst acc) → Q acc (sdel S p)) : ∀ acc S, I 0 acc S → S p = some (.lst acc) → tdLcGo p step xs acc S Q := by
  have key : ∀ (r : List D) (i : Nat) (acc : List D) (S : Sto), r = xs.drop i → i ≤ xs.length → I i acc S → S p = some (.lst acc) → tdLcGo p step r acc S Q := by
    intro r
    induction r with
    | nil =>
      intro i acc S e hi h hp
      have : i = xs.length := by
        have := congrArg List.length e
        rw [List.length_drop, List.length_nil] at this
        omega
      subst this
      exact ⟨hp, he _ _ h hp⟩
    | cons d r ih =>
      intro i acc S e hi h hp
      have hl : i < xs.length := by
        have := congrArg List.length e
        rw [List.length_drop, List.length_cons] at this
        omega
      have e2 := List.drop_eq_getElem_cons hl
      rw [← e] at e2
      cases e2
      exact ⟨hp, hs i _ acc S _ (List.getElem?_eq_getElem hl) h hp (fun y S1 h1 h2 h3 => ⟨h1, h2, ih (i + 1) _ _ rfl hl h3 sup_same⟩) fun S1 h1 h3 => ⟨h1, ih (i + 1) _ _ rfl hl h3 h1⟩⟩
  exact fun acc S h hp => key xs 0 acc S (by simp) (Nat.zero_le _) h hp
theorem l2lt {x : Int} {k : Nat} (h : x.natAbs < 2 ^ k) (hk : 0 < k) : x.natAbs.log2 < k := by
  by_cases e : x.natAbs = 0
  · rw [e]; simpa using hk
  · exact (Nat.log2_lt e).mpr h
theorem mul_ok {x y : Int} {k l : Nat} (h : x.natAbs < 2 ^ k) (h2 : y.natAbs < 2 ^ l) (hk : 0 < k) (hl : 0 < l) (s : k + l ≤ 1000000) : x.natAbs.log2 + y.natAbs.log2 < 1000000 := by
  have := l2lt h hk
  have := l2lt h2 hl
  omega
theorem p_modB {i j : Int} (h : 0 < j) (q : ∀ x, 0 ≤ x → x < j → Q (.int x) S) : rdP modD (.int i) (.int j) S Q := p_r (d := .int (i.fmod j)) rfl (show j ≠ 0 by omega) (q _ (Int.fmod_nonneg_of_pos i h) (Int.fmod_lt_of_pos i h))
theorem p_mod {i j : Int} (h : j ≠ 0) (q : Q (.int (i.fmod j)) S) : rdP modD (.int i) (.int j) S Q := p_r (d := .int (i.fmod j)) rfl h q
theorem p_sub {i j : Int} (q : Q (.int (i - j)) S) : rdP subD (.int i) (.int j) S Q := p_r (d := .int (i - j)) rfl trivial q
theorem p_fdiv {i j : Int} (h : CFd i j) (q : Q (.int (i.fdiv j)) S) : rdP fdivD (.int i) (.int j) S Q := p_r (d := .int (i.fdiv j)) rfl h q
theorem p_pow {i j : Int} (h : CPow i j) (q : Q (.int (i ^ j.toNat)) S) : rdP powD (.int i) (.int j) S Q := p_r (d := .int (i ^ j.toNat)) rfl h q
theorem p_lt {i j : Int} (q : Q (.bl (decide (i < j))) S) : rdP ltD (.int i) (.int j) S Q := p_r (d := .bl (decide (i < j))) rfl trivial q
theorem p_le {i j : Int} (q : Q (.bl (decide (i ≤ j))) S) : rdP leD (.int i) (.int j) S Q := p_r (d := .bl (decide (i ≤ j))) rfl trivial q
theorem p_gt {i j : Int} (q : Q (.bl (decide (j < i))) S) : rdP gtD (.int i) (.int j) S Q := p_r (d := .bl (decide (j < i))) rfl trivial q
theorem p_ge {i j : Int} (q : Q (.bl (decide (j ≤ i))) S) : rdP geD (.int i) (.int j) S Q := p_r (d := .bl (decide (j ≤ i))) rfl trivial q
theorem p_eqR (h1 : okD (res S x) = true) (h2 : okD (res S y) = true) (q : Q (.bl (eqD (res S x) (res S y))) S) : rdP (eqR false) x y S Q := p_r (d := .bl (eqD (res S x) (res S y))) rfl ⟨h1, h2⟩ q
theorem p_neR (h1 : okD (res S x) = true) (h2 : okD (res S y) = true) (q : Q (.bl (!eqD (res S x) (res S y))) S) : rdP (eqR true) x y S Q := p_r (d := .bl (!eqD (res S x) (res S y))) rfl ⟨h1, h2⟩ q
theorem eqD_int {i j : Int} : eqD (.int i) (.int j) = decide (i = j) := by
  show PyData.eqv (.int i) (.int j) = _
  unfold PyData.eqv
  by_cases h : i = j <;> simp [h]
theorem eqD_str {i j : Str} : eqD (.str i) (.str j) = (i == j) := by
  show PyData.eqv (.str i) (.str j) = _
  unfold PyData.eqv
  rfl
theorem p_eqI {i j : Int} (q : Q (.bl (decide (i = j))) S) : rdP (eqR false) (.int i) (.int j) S Q := p_eqR rfl rfl (by rw [show eqD (res S (.int i)) (res S (.int j)) = decide (i = j) from eqD_int]; exact q)
theorem p_neI {i j : Int} (q : Q (.bl (!decide (i = j))) S) : rdP (eqR true) (.int i) (.int j) S Q := p_neR rfl rfl (by rw [show eqD (res S (.int i)) (res S (.int j)) = decide (i = j) from eqD_int]; exact q)
theorem p_repr (h : reprOk (res S x)) (q : Q (.str (pyd (res S x)).shown) S) : rdC reprR [x] S Q := p_rc (d := .str (pyd (res S x)).shown) rfl h q
theorem p_isi {n t : String} (e : typD S x = some t) (h : n ∈ ["NoneType", "bool", "int", "str", "tuple", "list", "dict"]) (q : Q (.bl (isaB t n)) S) : rdC isiD [x, .ty n] S Q := p_rc (cc := n ∈ ["NoneType", "bool", "int", "str", "tuple", "list", "dict"]) (d := .bl (isaB t n)) (by unfold isiD; simp only [e]) h q
theorem mul_ok200 {x y : Int} (h : x.natAbs < 2 ^ 200) (h2 : y.natAbs < 2 ^ 200) : x.natAbs.log2 + y.natAbs.log2 < 1000000 := mul_ok h h2 (by decide) (by decide) (by decide)
theorem p_mulI {i j : Int} (h : i.natAbs < 2 ^ 200) (h2 : j.natAbs < 2 ^ 200) (q : Q (.int (i * j)) S) : rdP mulD (.int i) (.int j) S Q := p_r (d := .int (i * j)) rfl (mul_ok200 h h2) q
theorem sdel_sup {o : MO} (h : S a = none) : sdel (sup S a o) a = S := by
  funext q
  by_cases e : q = a
  · subst e; rw [sdel_same, h]
  · rw [sdel_ne e, sup_ne e]
def pDisp (p : Addr) (xs : List Str) (Q : QD) : List D → Sto → Prop := fun ds S2 => ds.length = xs.length ∧ S2 p = some (.dct [] []) ∧ Q (.dct (xs.map D.str) ds) (sdel S2 p)
theorem p_disp {xs : List Str} (q : ∀ p, S p = none → t env (sup S p (.dct [] [])) (pDisp p xs Q)) : tdDisp xs t env S Q := q
theorem p_dispE {xs : List Str} {p : Addr} (hp : S p = none) (hl : ds.length = xs.length) (q : Q (.dct (xs.map D.str) ds) S) : pDisp p xs Q ds (sup S p (.dct [] [])) := ⟨hl, sup_same, by rw [sdel_sup hp]; exact q⟩
def pGet2 (x k z : D) (Q : QD) (S3 : Sto) : Prop := match getD' S3 x with
  | some (ks, vs) => isK1 k = true ∧ Q ((lookD ks vs k).getD z) S3
  | none => False
theorem p_get2 (q : to env S fun x S1 => (getD' S1 x).isSome = true ∧ te env S1 fun k S2 => tf env S2 fun z S3 => pGet2 x k z Q S3) : tdGet2 to te tf env S Q := q
theorem p_getI {A : Prop} (h : (getD' S x).isSome = true) (q : A) : (getD' S x).isSome = true ∧ A := ⟨h, q⟩
theorem p_getS {ks vs : List D} {k z : D} (e : getD' S x = some (ks, vs)) (h : isK1 k = true) (l : lookD ks vs k = some d) (q : Q d S) : pGet2 x k z Q S := by
  unfold pGet2
  rw [e]
  exact ⟨h, by rw [l]; exact q⟩
theorem p_getN {ks vs : List D} {k z : D} (e : getD' S x = some (ks, vs)) (h : isK1 k = true) (l : lookD ks vs k = none) (q : Q z S) : pGet2 x k z Q S := by
  unfold pGet2
  rw [e]
  exact ⟨h, by rw [l]; exact q⟩
theorem p_isN {d : D} (q : Q (.bl (isNon d)) S) : rdP (isNR false) d .non S Q := p_r (cc := True) (d := .bl (isNon d)) rfl trivial q
theorem p_ix0 {r : List D} (q : Q x S) : rdP ixD (.tup (x :: r)) (.int 0) S Q := p_ixQ (xs := x :: r) rfl (by
  unfold L2.atI ixN
  rw [if_pos (by decide), if_pos (by rw [List.length_cons]; omega)]
  rfl) q
theorem p_ix0L {r : List D} (q : Q x S) : rdP ixD (.lst (x :: r)) (.int 0) S Q := p_ixQ (xs := x :: r) rfl (by
  unfold L2.atI ixN
  rw [if_pos (by decide), if_pos (by rw [List.length_cons]; omega)]
  rfl) q
theorem inR_tup {neg : Bool} : PL.inR neg S x (.tup ds) = some (flD x = true ∧ ds.all flD = true, .bl (if neg then !inD x ds else inD x ds)) := by
  unfold PL.inR
  split
  · rename_i h; cases h
  · rename_i h; cases h; rfl
  · rename_i h1 h2; exact absurd rfl (h1 ds)
theorem p_inT (h : flD x = true ∧ ds.all flD = true) (q : Q (.bl (inD x ds)) S) : rdP (PL.inR false) x (.tup ds) S Q := p_r inR_tup h q
theorem p_notInT (h : flD x = true ∧ ds.all flD = true) (q : Q (.bl (!inD x ds)) S) : rdP (PL.inR true) x (.tup ds) S Q := p_r inR_tup h q
theorem to_bl {b c : Bool} (e : b = c) (q : Q (.bl c) S) : Q (.bl b) S := by rw [e]; exact q
theorem p_kinT {tbl : List (Str × D)} {z : Str} (e : tbl.lookup z = some d) (q : Q (.bl true) S) : pKIn false tbl Q (.str z) S := p_kinS (by rw [e]; rfl) q
theorem p_kinF {tbl : List (Str × D)} {z : Str} (e : tbl.lookup z = none) (q : Q (.bl false) S) : pKIn false tbl Q (.str z) S := p_kinS (by rw [e]; rfl) q
theorem p_nkinT {tbl : List (Str × D)} {z : Str} (e : tbl.lookup z = some d) (q : Q (.bl false) S) : pKIn true tbl Q (.str z) S := p_kinS (by rw [e]; rfl) q
theorem p_nkinF {tbl : List (Str × D)} {z : Str} (e : tbl.lookup z = none) (q : Q (.bl true) S) : pKIn true tbl Q (.str z) S := p_kinS (by rw [e]; rfl) q
theorem p_lc {w : TID} {pt : TPat} {tt : TTD} {own : List Nat} (q : w env S fun ds S1 => ∀ p, S1 p = none → tdLcGo p (lcStep pt tt te (wipeD env own)) ds [] (sup S1 p (.lst [])) fun acc S2 => Q (.lst acc) S2) : tdLc w pt tt te own env S Q := q
theorem p_addR {xs ys : List D} (hx : getL S x = some xs) (hy : getL S y = some ys) (hl : xs.length + ys.length ≤ sizeLine) (q : ∀ p, S p = none → Q (.ref p) (sup S p (.lst (xs ++ ys)))) : rdAddR x y S Q := by
  unfold rdAddR
  rw [hx, hy]
  exact ⟨hl, q⟩
theorem lc_step {pt : TPat} {tt : TTD} {k : Option D → Sto → Prop} (e : bindD pt d env = some e') (q : tt e' S fun b S1 => if b = true then te e' S1 fun y S2 => k (some y) S2 else k none S1) : lcStep pt tt te env d S k := by
  unfold lcStep
  rw [e]
  exact q
theorem p_eqL {xs ys : List D} (h1 : okD (.lst xs) = true) (h2 : okD (.lst ys) = true) (q : Q (.bl (eqD (.lst xs) (.lst ys))) S) : rdP (eqR false) (.lst xs) (.lst ys) S Q := p_eqR h1 h2 q
theorem p_neL {xs ys : List D} (h1 : okD (.lst xs) = true) (h2 : okD (.lst ys) = true) (q : Q (.bl (!eqD (.lst xs) (.lst ys))) S) : rdP (eqR true) (.lst xs) (.lst ys) S Q := p_neR h1 h2 q
theorem p_eqT {xs ys : List D} (h1 : okD (.tup xs) = true) (h2 : okD (.tup ys) = true) (q : Q (.bl (eqD (.tup xs) (.tup ys))) S) : rdP (eqR false) (.tup xs) (.tup ys) S Q := p_eqR h1 h2 q
theorem p_neT {xs ys : List D} (h1 : okD (.tup xs) = true) (h2 : okD (.tup ys) = true) (q : Q (.bl (!eqD (.tup xs) (.tup ys))) S) : rdP (eqR true) (.tup xs) (.tup ys) S Q := p_neR h1 h2 q
theorem p_eqS {xs ys : Str} (h1 : okD (.str xs) = true) (h2 : okD (.str ys) = true) (q : Q (.bl (eqD (.str xs) (.str ys))) S) : rdP (eqR false) (.str xs) (.str ys) S Q := p_eqR h1 h2 q
theorem p_neS {xs ys : Str} (h1 : okD (.str xs) = true) (h2 : okD (.str ys) = true) (q : Q (.bl (!eqD (.str xs) (.str ys))) S) : rdP (eqR true) (.str xs) (.str ys) S Q := p_neR h1 h2 q
end
end PL

namespace PL
open PySem PySem.Spec PyProof.Rows L2

/-! ### the yarn: the script and three figures; each draw lies in its bounds -/
def spinM : TSD := (tdSeq (tdAsg (tdOp (rdP addD) (tdOp (rdP addD) (tdOp (rdP addD) (tdOp (rdP modD) (tdVar 5) (tdC (.int 2147483587))) (tdOp (rdP mulD) (tdOp (rdP mulD) (tdC (.int 6991)) (tdVar 2)) (tdVar 2))) (tdOp (rdP mulD) (tdC (.int 1013)) (tdVar 2))) (tdC (.int 257))) (.nm 6)) (tdSeq (tdAsg (tdOp (rdP modD) (tdOp (rdP addD) (tdOp (rdP addD) (tdOp (rdP mulD) (tdVar 6) (tdVar 6)) (tdOp (rdP mulD) (tdC (.int 50021)) (tdVar 2))) (tdC (.int 59))) (tdC (.int 2147483563))) (.nm 6)) (tdRet (tdOp (rdP modD) (tdOp (rdP fdivD) (tdOp (rdP modD) (tdOp (rdP addD) (tdOp (rdP mulD) (tdVar 6) (tdVar 6)) (tdOp (rdP mulD) (tdC (.int 23)) (tdVar 6))) (tdC (.int 2147483549))) (tdC (.int 64))) (tdVar 1)))))
def spinT : TSD := (tdSeq (tdIfS (tdAnd (tdB (tdOp (rdP geD) (tdVar 5) (tdOp (rdP powD) (tdC (.int 10)) (tdC (.int 18))))) (tdB (tdOp (rdP ltD) (tdVar 4) (tdCB (rdC lenD) (tdCons (tdOp (rdP ixD) (tdVar 0) (tdC (.int 0))) tdNil))))) (tdSeq (tdSetI (tdOp (rdP fdivD) (tdVar 5) (tdVar 1)) (tdVar 0) (tdC (.int 1))) (tdRet (tdOp (rdP modD) (tdVar 5) (tdVar 1)))) tdNext) spinM)
def spinR : TSD := (tdSeq (tdAsg (tdOp (rdP ixD) (tdVar 0) (tdC (.int 2))) (.nm 2)) (tdSeq (tdSetI (tdOp (rdP addD) (tdVar 2) (tdC (.int 1))) (tdVar 0) (tdC (.int 2))) (tdSeq (tdIfS (tdB (tdOp (rdP gtD) (tdOp (rdP ixD) (tdVar 0) (tdC (.int 1))) (tdC (.int 0)))) (tdSeq (tdAsg (tdOp (rdP modD) (tdOp (rdP ixD) (tdVar 0) (tdC (.int 1))) (tdVar 1)) (.nm 3)) (tdSeq (tdSetI (tdOp (rdP fdivD) (tdOp (rdP ixD) (tdVar 0) (tdC (.int 1))) (tdVar 1)) (tdVar 0) (tdC (.int 1))) (tdRet (tdVar 3)))) tdNext) (tdSeq (tdAsg (tdOp (rdP ixD) (tdVar 0) (tdC (.int 3))) (.nm 4)) (tdSeq (tdSetI (tdOp (rdP addD) (tdVar 4) (tdC (.int 1))) (tdVar 0) (tdC (.int 3))) (tdSeq (tdAsg (tdIf (tdB (tdOp (rdP (eqR true)) (tdOp (rdP ixD) (tdVar 0) (tdC (.int 0))) (tdLst tdNil))) (tdOp (rdP ixD) (tdOp (rdP ixD) (tdVar 0) (tdC (.int 0))) (tdOp (rdP modD) (tdVar 4) (tdCB (rdC lenD) (tdCons (tdOp (rdP ixD) (tdVar 0) (tdC (.int 0))) tdNil)))) (tdC (.int 12))) (.nm 5)) spinT))))))
def Yn (ns : List Int) (y : Addr) (B : Nat) (S : Sto) : Prop := ∃ (a c : Int) (t : Nat), S y = some (.lst [.lst (ns.map D.int), .int a, .int t, .int c]) ∧ t ≤ B
def Only (y : Addr) (S S' : Sto) : Prop := ∀ q, q ≠ y → S' q = S q
theorem Yn.up {ns : List Int} {y : Addr} {B C : Nat} {S : Sto} (h : Yn ns y B S) (l : B ≤ C) : Yn ns y C S := let ⟨a, c, t, e, b⟩ := h; ⟨a, c, t, e, Nat.le_trans b l⟩
theorem Yn.ne {ns : List Int} {y p : Addr} {B : Nat} {S : Sto} (h : Yn ns y B S) (e : S p = none) : p ≠ y := fun k => by
  obtain ⟨a, c, t, h1, _⟩ := h
  rw [← k, e] at h1; cases h1
theorem Yn.sup {ns : List Int} {y p : Addr} {B : Nat} {S : Sto} {o : MO} (h : Yn ns y B S) (n : p ≠ y) : Yn ns y B (sup S p o) := by
  obtain ⟨a, c, t, h1, h2⟩ := h
  exact ⟨a, c, t, by rw [sup_ne (Ne.symm n)]; exact h1, h2⟩
theorem Yn.del {ns : List Int} {y p : Addr} {B : Nat} {S : Sto} (h : Yn ns y B S) (n : p ≠ y) : Yn ns y B (sdel S p) := by
  obtain ⟨a, c, t, h1, h2⟩ := h
  exact ⟨a, c, t, by rw [sdel_ne (Ne.symm n)]; exact h1, h2⟩
theorem Only.refl {y : Addr} {S : Sto} : Only y S S := fun _ _ => rfl
theorem Only.trans {y : Addr} {S S1 S2 : Sto} (h : Only y S S1) (k : Only y S1 S2) : Only y S S2 := fun q n => (k q n).trans (h q n)
theorem only_sup {y : Addr} {S : Sto} {o : MO} : Only y S (sup S y o) := fun q n => sup_ne n
theorem fmod_lo {a m : Int} (h : 0 < m) : 0 ≤ a.fmod m := Int.fmod_nonneg_of_pos a h
theorem fmod_hi {a m : Int} (h : 0 < m) : a.fmod m < m := Int.fmod_lt_of_pos a h
theorem atI_map {ns : List Int} {i : Int} (h0 : 0 ≤ i) (h1 : i < ns.length) : ∃ n, atI (ns.map D.int) i = some (.int n) := by
  unfold L2.atI ixN
  rw [if_pos h0, List.length_map, if_pos h1]
  refine ⟨ns[i.toNat]'(by omega), ?_⟩
  show (ns.map D.int)[i.toNat]? = _
  rw [List.getElem?_map, List.getElem?_eq_getElem (by omega)]
  rfl
theorem isDts_ints : ∀ ns : List Int, isDts (ns.map D.int) = true
  | [] => rfl
  | n :: r => by rw [List.map_cons]; unfold isDts; rw [isDts_ints r]; rfl
/-! ### data of bounded looks -/
structure Okd (d : D) (k w : Nat) : Prop where
  dt : isDt d = true
  lay : PyData.canLay0 (pyd d) = true
  dep : PyData.depth (pyd d) ≤ k
  sh : PyData.showable (pyd d) = true
  len : (PyData.shown (pyd d)).length ≤ w
theorem Okd.mono {d : D} {k w k' w' : Nat} (h : Okd d k w) (l : k ≤ k' := by decide) (m : w ≤ w' := by decide) : Okd d k' w' := ⟨h.dt, h.lay, Nat.le_trans h.dep l, h.sh, Nat.le_trans h.len m⟩
theorem okd_int {i : Int} (h : i.natAbs < 10 ^ 30) : Okd (.int i) 0 31 where
  dt := rfl
  lay := rfl
  dep := Nat.le_refl _
  sh := by
    show decide (i.natAbs.log2 < 1920) = true
    have : i.natAbs < 2 ^ 100 := Nat.lt_trans h (by decide)
    have := l2lt this (by decide)
    exact decide_eq_true (by omega)
  len := by
    show (Str.ofString (toString i)).length ≤ 31
    rw [PySem.ofString_length]
    exact int_text_length_le10 (k := 30) (by decide) h
theorem okd_non : Okd .non 0 4 := ⟨rfl, rfl, Nat.le_refl _, rfl, by decide⟩
theorem okd_bl {b : Bool} : Okd (.bl b) 0 5 := ⟨rfl, rfl, Nat.le_refl _, rfl, by cases b <;> decide⟩
theorem okd_str {x : Str} {w : Nat} (h : (PyData.strOk x && decide ((reprText x).length ≤ w)) = true) : Okd (.str x) 0 w :=
  have h := Bool.and_eq_true_iff.mp h
  ⟨rfl, by show PyData.canLay0 (.str x) = true; simpa [PyData.canLay0] using h.1, Nat.le_refl _, by show PyData.showable (.str x) = true; simp [PyData.showable], of_decide_eq_true h.2⟩
theorem join_le {w : Nat} : ∀ ts : List Str, (∀ t ∈ ts, t.length ≤ w) → (Str.join ", " ts).length ≤ ts.length * (w + 2)
  | [], _ => Nat.zero_le _
  | [x], h => by
    show x.length ≤ _
    have := h x (by simp)
    simp only [List.length_cons, List.length_nil]
    omega
  | x :: y :: r, h => by
    have ih := join_le (y :: r) fun t ht => h t (List.mem_cons_of_mem _ ht)
    have := h x (by simp)
    show (x ++ ", " ++ Str.join ", " (y :: r)).length ≤ _
    rw [strLen_append, strLen_append]
    have e : ((", " : String) : Str).length = 2 := rfl
    rw [List.length_cons, Nat.succ_mul]
    omega
theorem shownAll_mem {w : Nat} : ∀ ds : List D, (∀ d ∈ ds, (PyData.shown (pyd d)).length ≤ w) → ∀ t ∈ PyData.shownAll (pyds ds), t.length ≤ w
  | [], _, t, h => by unfold pyds PyData.shownAll at h; cases h
  | d :: r, h, t, ht => by
    unfold pyds PyData.shownAll at ht
    rcases List.mem_cons.mp ht with rfl | ht
    · exact h d (by simp)
    · exact shownAll_mem r (fun d hd => h d (List.mem_cons_of_mem _ hd)) t ht
theorem shownAll_len : ∀ ds : List D, (PyData.shownAll (pyds ds)).length = ds.length
  | [] => by unfold pyds PyData.shownAll; rfl
  | d :: r => by unfold pyds PyData.shownAll; rw [List.length_cons, List.length_cons, shownAll_len r]
theorem okds {k w : Nat} : ∀ ds : List D, (∀ d ∈ ds, Okd d k w) → isDts ds = true ∧ PyData.canLayAll0 (pyds ds) = true ∧ PyData.depthAll (pyds ds) ≤ k ∧ PyData.showableAll (pyds ds) = true
  | [], _ => ⟨rfl, rfl, Nat.zero_le _, rfl⟩
  | d :: r, h => by
    have ih := okds r fun d hd => h d (List.mem_cons_of_mem _ hd)
    have h0 := h d (by simp)
    refine ⟨?_, ?_, ?_, ?_⟩
    · unfold isDts; rw [h0.dt, ih.1]; rfl
    · unfold pyds PyData.canLayAll0; rw [h0.lay, ih.2.1]; rfl
    · unfold pyds PyData.depthAll; exact Nat.max_le.mpr ⟨h0.dep, ih.2.2.1⟩
    · unfold pyds PyData.showableAll; rw [h0.sh, ih.2.2.2]; rfl
theorem okd_lst {ds : List D} {k w n : Nat} (h : ∀ d ∈ ds, Okd d k w) (hn : ds.length ≤ n) : Okd (.lst ds) (k + 1) (n * (w + 2) + 2) := by
  obtain ⟨a, b, c, e⟩ := okds ds h
  refine ⟨by unfold isDt; exact a, by unfold pyd PyData.canLay0; exact b, by unfold pyd PyData.depth; omega, by unfold pyd PyData.showable; exact e, ?_⟩
  unfold pyd PyData.shown
  rw [listText_eq_join, strLen_append, strLen_append]
  have := join_le _ (shownAll_mem ds fun d hd => (h d hd).len)
  rw [shownAll_len] at this
  have l : ds.length * (w + 2) ≤ n * (w + 2) := Nat.mul_le_mul_right _ hn
  have e1 : (("[" : String) : Str).length = 1 := rfl
  have e2 : (("]" : String) : Str).length = 1 := rfl
  omega
theorem okd_tup {ds : List D} {k w n : Nat} (h : ∀ d ∈ ds, Okd d k w) (hn : ds.length ≤ n) : Okd (.tup ds) (k + 1) (n * (w + 2) + 3) := by
  obtain ⟨a, b, c, e⟩ := okds ds h
  refine ⟨by unfold isDt; exact a, by unfold pyd PyData.canLay0; exact b, by unfold pyd PyData.depth; omega, by unfold pyd PyData.showable; exact e, ?_⟩
  unfold pyd PyData.shown tupleText
  rw [strLen_append, strLen_append]
  have := join_le _ (shownAll_mem ds fun d hd => (h d hd).len)
  rw [shownAll_len] at this
  have l : ds.length * (w + 2) ≤ n * (w + 2) := Nat.mul_le_mul_right _ hn
  have e1 : (("(" : String) : Str).length = 1 := rfl
  have e2 : ((if (PyData.shownAll (pyds ds)).length == 1 then ",)" else ")" : String) : Str).length ≤ 2 := by split <;> decide
  omega
theorem Okd.ok {d : D} {k w : Nat} (h : Okd d k w) (l : k ≤ 64 := by decide) : okD d = true := by
  unfold okD SeqAt.shaped
  rw [h.dt, h.lay, decide_eq_true (Nat.le_trans h.dep l)]; rfl
theorem Okd.repr {d : D} {k w : Nat} (h : Okd d k w) (l : k ≤ 64 := by decide) (m : w ≤ 16000000 := by decide) : reprOk d :=
  ⟨h.dt, h.sh, PyData.hasDict_of_canLay _ h.lay, by have := h.len; rw [sizeLine_eq]; omega, by have := h.dep; omega⟩
theorem ok_flat {d : D} (h : flD d = true) (l : PyData.canLay0 (pyd d) = true) : okD d = true := by
  cases d <;> first | (simp [flD] at h; done) | skip
  all_goals (unfold okD SeqAt.shaped; rw [l]; rfl)
theorem ok_ints (ns : List Int) : okD (.lst (ns.map D.int)) = true := by
  have key : ∀ ns : List Int, PyData.canLayAll0 (pyds (ns.map D.int)) = true ∧ PyData.depthAll (pyds (ns.map D.int)) = 0 := by
    intro ns
    induction ns with
    | nil => exact ⟨rfl, rfl⟩
    | cons n r ih =>
      rw [List.map_cons]
      unfold pyds PyData.canLayAll0 PyData.depthAll
      rw [ih.1, ih.2]
      exact ⟨rfl, rfl⟩
  unfold okD SeqAt.shaped isDt pyd PyData.canLay0 PyData.depth
  rw [isDts_ints, (key ns).1, (key ns).2]
  rfl
/-- flat data of bounded looks, by a look -/
def okB : D → Bool
  | .non => true
  | .bl _ => true
  | .int i => decide (i.natAbs < 10 ^ 30)
  | .str x => PyData.strOk x && decide ((reprText x).length ≤ 31)
  | _ => false
theorem okB_okd {d : D} (h : okB d = true) : Okd d 0 31 := by
  cases d <;> first | (simp [okB] at h; done) | skip
  · exact okd_non.mono
  · exact okd_bl.mono
  · exact okd_int (of_decide_eq_true h)
  · exact okd_str h
theorem okB_int {i : Int} (h0 : -1000000000 ≤ i) (h1 : i ≤ 1000000000) : okB (.int i) = true := decide_eq_true (by omega)
theorem okB_ok {d : D} (h : okB d = true) : okD d = true := (okB_okd h).ok
theorem okB_res {d : D} {S : Sto} (h : okB d = true) : res S d = d := by
  cases d <;> first | rfl | (simp [okB] at h)
theorem okB_okR {d : D} {S : Sto} (h : okB d = true) : okD (res S d) = true := by rw [okB_res h]; exact okB_ok h
theorem okB_mem {ds : List D} {d : D} (h : d ∈ ds) (a : ds.all okB = true) : okB d = true := List.all_eq_true.mp a d h
theorem ok_nil : ([] : List D).all okB = true := rfl
theorem ok_cons {d : D} {r : List D} (h : okB d = true) (t : r.all okB = true) : (d :: r).all okB = true := by rw [List.all_cons, h, t]; rfl
theorem p_mulB {a : Str} {b : Bool} {S : Sto} {Q : QD} (h : a.length ≤ 1000) (q1 : Q (.str (Txt.mul a 1)) S) (q0 : Q (.str (Txt.mul a 0)) S) : rdP mulS (.str a) (.int (if b = true then 1 else 0)) S Q := by
  cases b with
  | true => exact p_r rfl ⟨by decide, by decide, h⟩ q1
  | false => exact p_r rfl ⟨by decide, by decide, h⟩ q0
theorem mem3 {P : D → Prop} {d a b c : D} (h : d ∈ [a, b, c]) (pa : P a) (pb : P b) (pc : P c) : P d := by
  rcases List.mem_cons.mp h with rfl | h
  · exact pa
  rcases List.mem_cons.mp h with rfl | h
  · exact pb
  rcases List.mem_cons.mp h with rfl | h
  · exact pc
  · cases h
theorem p_reprB {d : D} {S : Sto} {Q : QD} (h : okB d = true) (q : Q (.str (PyData.shown (pyd d))) S) : rdC reprR [d] S Q := p_repr (by rw [okB_res h]; exact (okB_okd h).repr) (by rw [okB_res h]; exact q)
theorem mem_sub {d : D} {ds es : List D} (h : d ∈ ds) (s : ∀ x ∈ ds, x ∈ es) : d ∈ es := s d h
theorem p_ixE {ds : List D} {k : Int} {S : Sto} {Q : QD} (h0 : 0 ≤ k) (h1 : k < ds.length) (q : ∀ d, d ∈ ds → Q d S) : rdP ixD (.lst ds) (.int k) S Q := by
  have e : atI ds k = some (ds[k.toNat]'(by omega)) := by
    unfold L2.atI ixN
    rw [if_pos h0, if_pos h1]
    show ds[k.toNat]? = _
    rw [List.getElem?_eq_getElem (by omega)]
  exact p_ixQ rfl e (q _ (List.getElem_mem _))
theorem spin_m {m c f : Int} {t : Nat} {S : Sto} {y : Addr} {Q : QD} {nx : Env' → Sto → Prop} (hm : 0 < m) (ht : t ≤ 1000000000)
    (q : ∀ k, 0 ≤ k → k < m → Q (.int k) S) : spinM ⟨nx, Q, fun _ _ => False, fun _ _ => False⟩ [some (.ref y), some (.int m), some (.int t), none, some (.int c), some (.int f), none] S := by
  unfold spinM
  have f0 : 0 ≤ f.fmod 2147483587 := fmod_lo (by decide)
  have f1 : f.fmod 2147483587 < 2147483587 := fmod_hi (by decide)
  have tt0 : (0 : Int) ≤ 6991 * t * t := Int.mul_nonneg (by omega) (by omega)
  have tt1 : (6991 : Int) * t * t ≤ 6991 * 1000000000 * 1000000000 := by
    have h1 : (6991 : Int) * t ≤ 6991 * 1000000000 := by omega
    exact Int.mul_le_mul h1 (by omega) (by omega) (by omega)
  have F (x : Int) : CFd x 64 := .inl ⟨by decide, by decide⟩
  (repeat' (first | with_reducible refine p_modB (j := 2147483563) (by decide) fun x x0 x1 => ?_ | with_reducible refine p_fdiv (F _) ?_ | with_reducible refine p_seq ?_ | with_reducible refine p_next ?_ | with_reducible refine p_var (by with_unfolding_all rfl) ?_ | with_reducible refine p_c ?_ | with_reducible refine p_op ?_ | with_reducible refine p_cb ?_ | with_reducible refine p_call ?_ | with_reducible refine p_cons ?_ | with_reducible refine p_nil ?_ | with_reducible refine p_tup ?_ | with_reducible refine p_lst ?_ | with_reducible refine p_b ?_ | with_reducible refine p_qb ?_ | with_reducible refine p_and ?_ | with_reducible refine p_or ?_ | with_reducible refine p_not ?_ | with_reducible refine p_andV ?_ | with_reducible refine p_orV ?_ | with_reducible refine p_notV ?_ | with_reducible refine p_if ?_ | with_reducible refine p_ifS ?_ | with_reducible refine p_un ?_ | with_reducible refine p_neg ?_ | with_reducible refine p_ret ?_ | with_reducible refine p_retN ?_ | with_reducible refine p_drop ?_ | with_reducible refine p_asg' ?_ | with_reducible refine p_par ?_ | with_reducible refine p_setI ?_ | with_reducible refine p_sl ?_ | with_reducible refine p_noPart ?_ | with_reducible refine p_part ?_ | with_reducible refine p_partI ?_ | with_reducible refine p_kin ?_ | with_reducible refine p_kget ?_ | with_reducible refine p_lm ?_ | with_reducible refine p_for ?_ | with_reducible refine p_seqI ?_ | with_reducible refine p_seqL ?_ | with_reducible refine p_seqT ?_ | with_reducible refine p_rng1 ?_ | with_reducible refine p_rng1I (by unfold rng1; first | decide | (constructor <;> omega)) ?_ | with_reducible refine p_yes ?_ | with_reducible refine p_chain ?_ | with_reducible refine p_callK ?_ | with_reducible refine p_lc ?_ | with_reducible refine p_disp fun _ hp0 => ?_ | with_reducible refine p_get2 ?_ | with_reducible refine p_bindM (by with_unfolding_all rfl) ?_ | with_reducible refine p_mulI (by first | decide | omega) (by first | decide | omega) ?_ | with_reducible refine p_mod (by first | decide | omega | assumption) ?_ | with_reducible refine p_sub ?_ | with_reducible refine p_min ?_ | with_reducible refine p_max ?_ | with_reducible refine p_ix0 ?_ | with_reducible refine p_ix0L ?_ | with_reducible refine p_inT (by first | decide +kernel | exact ⟨rfl, rfl⟩ | (simp [flD]; done)) ?_ | with_reducible refine p_notInT (by first | decide +kernel | exact ⟨rfl, rfl⟩ | (simp [flD]; done)) ?_ | with_reducible refine p_fdiv (by first | assumption | decide) ?_ | with_reducible refine p_pow (by unfold CPow; decide) ?_ | with_reducible refine p_lt ?_ | with_reducible refine p_le ?_ | with_reducible refine p_gt ?_ | with_reducible refine p_ge ?_ | with_reducible refine p_eqI ?_ | with_reducible refine p_neI ?_ | with_reducible refine p_eqL (by first | decide +kernel | assumption) (by first | decide +kernel | assumption) ?_ | with_reducible refine p_neL (by first | decide +kernel | assumption) (by first | decide +kernel | assumption) ?_ | with_reducible refine p_eqT (by first | decide +kernel | assumption) (by first | decide +kernel | assumption) ?_ | with_reducible refine p_neT (by first | decide +kernel | assumption) (by first | decide +kernel | assumption) ?_ | with_reducible refine p_eqS (by first | decide +kernel | assumption) (by first | decide +kernel | assumption) ?_ | with_reducible refine p_neS (by first | decide +kernel | assumption) (by first | decide +kernel | assumption) ?_ | with_reducible refine p_isi (by with_unfolding_all rfl) (by decide) ?_ | with_reducible refine p_lmO (by first | assumption | exact sup_same) ?_ | with_reducible refine p_lmE (by first | assumption | exact sup_same) (by with_unfolding_all rfl) (by (first | exact True.intro | exact szl | (with_reducible assumption) | decide | (simp only [List.length_cons, List.length_nil]; first | exact szl | omega) | omega)) ?_ | with_reducible refine p_freeze (by with_unfolding_all rfl) (by first | assumption | exact sup_same) ?_ | with_reducible refine p_dispE (by assumption) (by with_unfolding_all rfl) ?_ | with_reducible refine p_getI (by with_unfolding_all rfl) ?_ | with_reducible refine p_getS (by with_unfolding_all rfl) (by with_unfolding_all rfl) (by first | with_unfolding_all rfl | with_unfolding_all assumption) ?_ | with_reducible refine p_getN (by with_unfolding_all rfl) (by with_unfolding_all rfl) (by first | with_unfolding_all rfl | with_unfolding_all assumption) ?_ | with_reducible refine p_r (by with_unfolding_all rfl) (by (first | exact True.intro | exact szl | (with_reducible assumption) | decide | (simp only [List.length_cons, List.length_nil]; first | exact szl | omega) | omega)) ?_ | with_reducible refine p_rc (by with_unfolding_all rfl) (by (first | exact True.intro | exact szl | (with_reducible assumption) | decide | (simp only [List.length_cons, List.length_nil]; first | exact szl | omega) | omega)) ?_ | with_reducible refine p_ixS (by first | assumption | exact sup_same) (by with_unfolding_all rfl) ?_ | with_reducible refine p_set (by first | assumption | exact sup_same) (by with_unfolding_all rfl) ?_ | with_reducible refine p_onE (by with_unfolding_all rfl) (by (first | exact True.intro | exact szl | (with_reducible assumption) | decide | (simp only [List.length_cons, List.length_nil]; first | exact szl | omega) | omega)) ?_ | with_reducible refine p_kgetS (by first | with_unfolding_all rfl | with_unfolding_all assumption) ?_ | with_reducible refine p_kinT (by first | with_unfolding_all rfl | with_unfolding_all assumption) ?_ | with_reducible refine p_kinF (by first | with_unfolding_all rfl | with_unfolding_all assumption) ?_ | with_reducible refine p_nkinT (by first | with_unfolding_all rfl | with_unfolding_all assumption) ?_ | with_reducible refine p_nkinF (by first | with_unfolding_all rfl | with_unfolding_all assumption) ?_ | with_reducible refine p_T (by with_unfolding_all rfl) ?_ | with_reducible refine p_F (by with_unfolding_all rfl) ?_ | with_reducible refine And.intro (a := List.length _ ≤ sizeLine) szl ?_ | with_reducible refine And.intro (a := List.length _ = _) (by with_unfolding_all rfl) ?_))
  exact q _ (fmod_lo hm) (fmod_hi hm)
theorem spin_t {ns : List Int} {y : Addr} {m a c f : Int} {t : Nat} {S : Sto} {Q : QD} {nx : Env' → Sto → Prop} (hns : ns.length ≤ 63) (h : S y = some (.lst [.lst (ns.map D.int), .int a, .int ((t + 1 : Nat) : Int), .int (c + 1)])) (hm : 0 < m) (hm2 : m < 1073741824) (ht : t ≤ 1000000000)
    (q : ∀ k a' S', 0 ≤ k → k < m → S' y = some (.lst [.lst (ns.map D.int), .int a', .int ((t + 1 : Nat) : Int), .int (c + 1)]) → Only y S S' → Q (.int k) S') : spinT ⟨nx, Q, fun _ _ => False, fun _ _ => False⟩ [some (.ref y), some (.int m), some (.int t), none, some (.int c), some (.int f), none] S := by
  unfold spinT
  have hf : CFd f m := .inl ⟨by omega, by omega⟩
  have hp : CPow 10 18 := by unfold CPow; decide
  (repeat' (first | with_reducible refine p_seq ?_ | with_reducible refine p_next ?_ | with_reducible refine p_var (by with_unfolding_all rfl) ?_ | with_reducible refine p_c ?_ | with_reducible refine p_op ?_ | with_reducible refine p_cb ?_ | with_reducible refine p_call ?_ | with_reducible refine p_cons ?_ | with_reducible refine p_nil ?_ | with_reducible refine p_tup ?_ | with_reducible refine p_lst ?_ | with_reducible refine p_b ?_ | with_reducible refine p_qb ?_ | with_reducible refine p_and ?_ | with_reducible refine p_or ?_ | with_reducible refine p_not ?_ | with_reducible refine p_andV ?_ | with_reducible refine p_orV ?_ | with_reducible refine p_notV ?_ | with_reducible refine p_if ?_ | with_reducible refine p_ifS ?_ | with_reducible refine p_un ?_ | with_reducible refine p_neg ?_ | with_reducible refine p_ret ?_ | with_reducible refine p_retN ?_ | with_reducible refine p_drop ?_ | with_reducible refine p_asg' ?_ | with_reducible refine p_par ?_ | with_reducible refine p_setI ?_ | with_reducible refine p_sl ?_ | with_reducible refine p_noPart ?_ | with_reducible refine p_part ?_ | with_reducible refine p_partI ?_ | with_reducible refine p_kin ?_ | with_reducible refine p_kget ?_ | with_reducible refine p_lm ?_ | with_reducible refine p_for ?_ | with_reducible refine p_seqI ?_ | with_reducible refine p_seqL ?_ | with_reducible refine p_seqT ?_ | with_reducible refine p_rng1 ?_ | with_reducible refine p_rng1I (by unfold rng1; first | decide | (constructor <;> omega)) ?_ | with_reducible refine p_yes ?_ | with_reducible refine p_chain ?_ | with_reducible refine p_callK ?_ | with_reducible refine p_lc ?_ | with_reducible refine p_disp fun _ hp0 => ?_ | with_reducible refine p_get2 ?_ | with_reducible refine p_bindM (by with_unfolding_all rfl) ?_ | with_reducible refine p_mulI (by first | decide | omega) (by first | decide | omega) ?_ | with_reducible refine p_mod (by first | decide | omega | assumption) ?_ | with_reducible refine p_sub ?_ | with_reducible refine p_min ?_ | with_reducible refine p_max ?_ | with_reducible refine p_ix0 ?_ | with_reducible refine p_ix0L ?_ | with_reducible refine p_inT (by first | decide +kernel | exact ⟨rfl, rfl⟩ | (simp [flD]; done)) ?_ | with_reducible refine p_notInT (by first | decide +kernel | exact ⟨rfl, rfl⟩ | (simp [flD]; done)) ?_ | with_reducible refine p_fdiv (by first | assumption | decide) ?_ | with_reducible refine p_pow (by unfold CPow; decide) ?_ | with_reducible refine p_lt ?_ | with_reducible refine p_le ?_ | with_reducible refine p_gt ?_ | with_reducible refine p_ge ?_ | with_reducible refine p_eqI ?_ | with_reducible refine p_neI ?_ | with_reducible refine p_eqL (by first | decide +kernel | assumption) (by first | decide +kernel | assumption) ?_ | with_reducible refine p_neL (by first | decide +kernel | assumption) (by first | decide +kernel | assumption) ?_ | with_reducible refine p_eqT (by first | decide +kernel | assumption) (by first | decide +kernel | assumption) ?_ | with_reducible refine p_neT (by first | decide +kernel | assumption) (by first | decide +kernel | assumption) ?_ | with_reducible refine p_eqS (by first | decide +kernel | assumption) (by first | decide +kernel | assumption) ?_ | with_reducible refine p_neS (by first | decide +kernel | assumption) (by first | decide +kernel | assumption) ?_ | with_reducible refine p_isi (by with_unfolding_all rfl) (by decide) ?_ | with_reducible refine p_lmO (by first | assumption | exact sup_same) ?_ | with_reducible refine p_lmE (by first | assumption | exact sup_same) (by with_unfolding_all rfl) (by (first | exact True.intro | exact szl | (with_reducible assumption) | decide | (simp only [List.length_cons, List.length_nil]; first | exact szl | omega) | omega)) ?_ | with_reducible refine p_freeze (by with_unfolding_all rfl) (by first | assumption | exact sup_same) ?_ | with_reducible refine p_dispE (by assumption) (by with_unfolding_all rfl) ?_ | with_reducible refine p_getI (by with_unfolding_all rfl) ?_ | with_reducible refine p_getS (by with_unfolding_all rfl) (by with_unfolding_all rfl) (by first | with_unfolding_all rfl | with_unfolding_all assumption) ?_ | with_reducible refine p_getN (by with_unfolding_all rfl) (by with_unfolding_all rfl) (by first | with_unfolding_all rfl | with_unfolding_all assumption) ?_ | with_reducible refine p_r (by with_unfolding_all rfl) (by (first | exact True.intro | exact szl | (with_reducible assumption) | decide | (simp only [List.length_cons, List.length_nil]; first | exact szl | omega) | omega)) ?_ | with_reducible refine p_rc (by with_unfolding_all rfl) (by (first | exact True.intro | exact szl | (with_reducible assumption) | decide | (simp only [List.length_cons, List.length_nil]; first | exact szl | omega) | omega)) ?_ | with_reducible refine p_ixS (by first | assumption | exact sup_same) (by with_unfolding_all rfl) ?_ | with_reducible refine p_set (by first | assumption | exact sup_same) (by with_unfolding_all rfl) ?_ | with_reducible refine p_onE (by with_unfolding_all rfl) (by (first | exact True.intro | exact szl | (with_reducible assumption) | decide | (simp only [List.length_cons, List.length_nil]; first | exact szl | omega) | omega)) ?_ | with_reducible refine p_kgetS (by first | with_unfolding_all rfl | with_unfolding_all assumption) ?_ | with_reducible refine p_kinT (by first | with_unfolding_all rfl | with_unfolding_all assumption) ?_ | with_reducible refine p_kinF (by first | with_unfolding_all rfl | with_unfolding_all assumption) ?_ | with_reducible refine p_nkinT (by first | with_unfolding_all rfl | with_unfolding_all assumption) ?_ | with_reducible refine p_nkinF (by first | with_unfolding_all rfl | with_unfolding_all assumption) ?_ | with_reducible refine p_T (by with_unfolding_all rfl) ?_ | with_reducible refine p_F (by with_unfolding_all rfl) ?_ | with_reducible refine And.intro (a := List.length _ ≤ sizeLine) szl ?_ | with_reducible refine And.intro (a := List.length _ = _) (by with_unfolding_all rfl) ?_))
  refine p_iteD (fun h1 => ?_) (fun h1 => ?_)
  · (repeat' (first | with_reducible refine p_seq ?_ | with_reducible refine p_next ?_ | with_reducible refine p_var (by with_unfolding_all rfl) ?_ | with_reducible refine p_c ?_ | with_reducible refine p_op ?_ | with_reducible refine p_cb ?_ | with_reducible refine p_call ?_ | with_reducible refine p_cons ?_ | with_reducible refine p_nil ?_ | with_reducible refine p_tup ?_ | with_reducible refine p_lst ?_ | with_reducible refine p_b ?_ | with_reducible refine p_qb ?_ | with_reducible refine p_and ?_ | with_reducible refine p_or ?_ | with_reducible refine p_not ?_ | with_reducible refine p_andV ?_ | with_reducible refine p_orV ?_ | with_reducible refine p_notV ?_ | with_reducible refine p_if ?_ | with_reducible refine p_ifS ?_ | with_reducible refine p_un ?_ | with_reducible refine p_neg ?_ | with_reducible refine p_ret ?_ | with_reducible refine p_retN ?_ | with_reducible refine p_drop ?_ | with_reducible refine p_asg' ?_ | with_reducible refine p_par ?_ | with_reducible refine p_setI ?_ | with_reducible refine p_sl ?_ | with_reducible refine p_noPart ?_ | with_reducible refine p_part ?_ | with_reducible refine p_partI ?_ | with_reducible refine p_kin ?_ | with_reducible refine p_kget ?_ | with_reducible refine p_lm ?_ | with_reducible refine p_for ?_ | with_reducible refine p_seqI ?_ | with_reducible refine p_seqL ?_ | with_reducible refine p_seqT ?_ | with_reducible refine p_rng1 ?_ | with_reducible refine p_rng1I (by unfold rng1; first | decide | (constructor <;> omega)) ?_ | with_reducible refine p_yes ?_ | with_reducible refine p_chain ?_ | with_reducible refine p_callK ?_ | with_reducible refine p_lc ?_ | with_reducible refine p_disp fun _ hp0 => ?_ | with_reducible refine p_get2 ?_ | with_reducible refine p_bindM (by with_unfolding_all rfl) ?_ | with_reducible refine p_mulI (by first | decide | omega) (by first | decide | omega) ?_ | with_reducible refine p_mod (by first | decide | omega | assumption) ?_ | with_reducible refine p_sub ?_ | with_reducible refine p_min ?_ | with_reducible refine p_max ?_ | with_reducible refine p_ix0 ?_ | with_reducible refine p_ix0L ?_ | with_reducible refine p_inT (by first | decide +kernel | exact ⟨rfl, rfl⟩ | (simp [flD]; done)) ?_ | with_reducible refine p_notInT (by first | decide +kernel | exact ⟨rfl, rfl⟩ | (simp [flD]; done)) ?_ | with_reducible refine p_fdiv (by first | assumption | decide) ?_ | with_reducible refine p_pow (by unfold CPow; decide) ?_ | with_reducible refine p_lt ?_ | with_reducible refine p_le ?_ | with_reducible refine p_gt ?_ | with_reducible refine p_ge ?_ | with_reducible refine p_eqI ?_ | with_reducible refine p_neI ?_ | with_reducible refine p_eqL (by first | decide +kernel | assumption) (by first | decide +kernel | assumption) ?_ | with_reducible refine p_neL (by first | decide +kernel | assumption) (by first | decide +kernel | assumption) ?_ | with_reducible refine p_eqT (by first | decide +kernel | assumption) (by first | decide +kernel | assumption) ?_ | with_reducible refine p_neT (by first | decide +kernel | assumption) (by first | decide +kernel | assumption) ?_ | with_reducible refine p_eqS (by first | decide +kernel | assumption) (by first | decide +kernel | assumption) ?_ | with_reducible refine p_neS (by first | decide +kernel | assumption) (by first | decide +kernel | assumption) ?_ | with_reducible refine p_isi (by with_unfolding_all rfl) (by decide) ?_ | with_reducible refine p_lmO (by first | assumption | exact sup_same) ?_ | with_reducible refine p_lmE (by first | assumption | exact sup_same) (by with_unfolding_all rfl) (by (first | exact True.intro | exact szl | (with_reducible assumption) | decide | (simp only [List.length_cons, List.length_nil]; first | exact szl | omega) | omega)) ?_ | with_reducible refine p_freeze (by with_unfolding_all rfl) (by first | assumption | exact sup_same) ?_ | with_reducible refine p_dispE (by assumption) (by with_unfolding_all rfl) ?_ | with_reducible refine p_getI (by with_unfolding_all rfl) ?_ | with_reducible refine p_getS (by with_unfolding_all rfl) (by with_unfolding_all rfl) (by first | with_unfolding_all rfl | with_unfolding_all assumption) ?_ | with_reducible refine p_getN (by with_unfolding_all rfl) (by with_unfolding_all rfl) (by first | with_unfolding_all rfl | with_unfolding_all assumption) ?_ | with_reducible refine p_r (by with_unfolding_all rfl) (by (first | exact True.intro | exact szl | (with_reducible assumption) | decide | (simp only [List.length_cons, List.length_nil]; first | exact szl | omega) | omega)) ?_ | with_reducible refine p_rc (by with_unfolding_all rfl) (by (first | exact True.intro | exact szl | (with_reducible assumption) | decide | (simp only [List.length_cons, List.length_nil]; first | exact szl | omega) | omega)) ?_ | with_reducible refine p_ixS (by first | assumption | exact sup_same) (by with_unfolding_all rfl) ?_ | with_reducible refine p_set (by first | assumption | exact sup_same) (by with_unfolding_all rfl) ?_ | with_reducible refine p_onE (by with_unfolding_all rfl) (by (first | exact True.intro | exact szl | (with_reducible assumption) | decide | (simp only [List.length_cons, List.length_nil]; first | exact szl | omega) | omega)) ?_ | with_reducible refine p_kgetS (by first | with_unfolding_all rfl | with_unfolding_all assumption) ?_ | with_reducible refine p_kinT (by first | with_unfolding_all rfl | with_unfolding_all assumption) ?_ | with_reducible refine p_kinF (by first | with_unfolding_all rfl | with_unfolding_all assumption) ?_ | with_reducible refine p_nkinT (by first | with_unfolding_all rfl | with_unfolding_all assumption) ?_ | with_reducible refine p_nkinF (by first | with_unfolding_all rfl | with_unfolding_all assumption) ?_ | with_reducible refine p_T (by with_unfolding_all rfl) ?_ | with_reducible refine p_F (by with_unfolding_all rfl) ?_ | with_reducible refine And.intro (a := List.length _ ≤ sizeLine) szl ?_ | with_reducible refine And.intro (a := List.length _ = _) (by with_unfolding_all rfl) ?_))
    refine p_iteD (fun h2 => ?_) (fun h2 => ?_)
    · (repeat' (first | with_reducible refine p_seq ?_ | with_reducible refine p_next ?_ | with_reducible refine p_var (by with_unfolding_all rfl) ?_ | with_reducible refine p_c ?_ | with_reducible refine p_op ?_ | with_reducible refine p_cb ?_ | with_reducible refine p_call ?_ | with_reducible refine p_cons ?_ | with_reducible refine p_nil ?_ | with_reducible refine p_tup ?_ | with_reducible refine p_lst ?_ | with_reducible refine p_b ?_ | with_reducible refine p_qb ?_ | with_reducible refine p_and ?_ | with_reducible refine p_or ?_ | with_reducible refine p_not ?_ | with_reducible refine p_andV ?_ | with_reducible refine p_orV ?_ | with_reducible refine p_notV ?_ | with_reducible refine p_if ?_ | with_reducible refine p_ifS ?_ | with_reducible refine p_un ?_ | with_reducible refine p_neg ?_ | with_reducible refine p_ret ?_ | with_reducible refine p_retN ?_ | with_reducible refine p_drop ?_ | with_reducible refine p_asg' ?_ | with_reducible refine p_par ?_ | with_reducible refine p_setI ?_ | with_reducible refine p_sl ?_ | with_reducible refine p_noPart ?_ | with_reducible refine p_part ?_ | with_reducible refine p_partI ?_ | with_reducible refine p_kin ?_ | with_reducible refine p_kget ?_ | with_reducible refine p_lm ?_ | with_reducible refine p_for ?_ | with_reducible refine p_seqI ?_ | with_reducible refine p_seqL ?_ | with_reducible refine p_seqT ?_ | with_reducible refine p_rng1 ?_ | with_reducible refine p_rng1I (by unfold rng1; first | decide | (constructor <;> omega)) ?_ | with_reducible refine p_yes ?_ | with_reducible refine p_chain ?_ | with_reducible refine p_callK ?_ | with_reducible refine p_lc ?_ | with_reducible refine p_disp fun _ hp0 => ?_ | with_reducible refine p_get2 ?_ | with_reducible refine p_bindM (by with_unfolding_all rfl) ?_ | with_reducible refine p_mulI (by first | decide | omega) (by first | decide | omega) ?_ | with_reducible refine p_mod (by first | decide | omega | assumption) ?_ | with_reducible refine p_sub ?_ | with_reducible refine p_min ?_ | with_reducible refine p_max ?_ | with_reducible refine p_ix0 ?_ | with_reducible refine p_ix0L ?_ | with_reducible refine p_inT (by first | decide +kernel | exact ⟨rfl, rfl⟩ | (simp [flD]; done)) ?_ | with_reducible refine p_notInT (by first | decide +kernel | exact ⟨rfl, rfl⟩ | (simp [flD]; done)) ?_ | with_reducible refine p_fdiv (by first | assumption | decide) ?_ | with_reducible refine p_pow (by unfold CPow; decide) ?_ | with_reducible refine p_lt ?_ | with_reducible refine p_le ?_ | with_reducible refine p_gt ?_ | with_reducible refine p_ge ?_ | with_reducible refine p_eqI ?_ | with_reducible refine p_neI ?_ | with_reducible refine p_eqL (by first | decide +kernel | assumption) (by first | decide +kernel | assumption) ?_ | with_reducible refine p_neL (by first | decide +kernel | assumption) (by first | decide +kernel | assumption) ?_ | with_reducible refine p_eqT (by first | decide +kernel | assumption) (by first | decide +kernel | assumption) ?_ | with_reducible refine p_neT (by first | decide +kernel | assumption) (by first | decide +kernel | assumption) ?_ | with_reducible refine p_eqS (by first | decide +kernel | assumption) (by first | decide +kernel | assumption) ?_ | with_reducible refine p_neS (by first | decide +kernel | assumption) (by first | decide +kernel | assumption) ?_ | with_reducible refine p_isi (by with_unfolding_all rfl) (by decide) ?_ | with_reducible refine p_lmO (by first | assumption | exact sup_same) ?_ | with_reducible refine p_lmE (by first | assumption | exact sup_same) (by with_unfolding_all rfl) (by (first | exact True.intro | exact szl | (with_reducible assumption) | decide | (simp only [List.length_cons, List.length_nil]; first | exact szl | omega) | omega)) ?_ | with_reducible refine p_freeze (by with_unfolding_all rfl) (by first | assumption | exact sup_same) ?_ | with_reducible refine p_dispE (by assumption) (by with_unfolding_all rfl) ?_ | with_reducible refine p_getI (by with_unfolding_all rfl) ?_ | with_reducible refine p_getS (by with_unfolding_all rfl) (by with_unfolding_all rfl) (by first | with_unfolding_all rfl | with_unfolding_all assumption) ?_ | with_reducible refine p_getN (by with_unfolding_all rfl) (by with_unfolding_all rfl) (by first | with_unfolding_all rfl | with_unfolding_all assumption) ?_ | with_reducible refine p_r (by with_unfolding_all rfl) (by (first | exact True.intro | exact szl | (with_reducible assumption) | decide | (simp only [List.length_cons, List.length_nil]; first | exact szl | omega) | omega)) ?_ | with_reducible refine p_rc (by with_unfolding_all rfl) (by (first | exact True.intro | exact szl | (with_reducible assumption) | decide | (simp only [List.length_cons, List.length_nil]; first | exact szl | omega) | omega)) ?_ | with_reducible refine p_ixS (by first | assumption | exact sup_same) (by with_unfolding_all rfl) ?_ | with_reducible refine p_set (by first | assumption | exact sup_same) (by with_unfolding_all rfl) ?_ | with_reducible refine p_onE (by with_unfolding_all rfl) (by (first | exact True.intro | exact szl | (with_reducible assumption) | decide | (simp only [List.length_cons, List.length_nil]; first | exact szl | omega) | omega)) ?_ | with_reducible refine p_kgetS (by first | with_unfolding_all rfl | with_unfolding_all assumption) ?_ | with_reducible refine p_kinT (by first | with_unfolding_all rfl | with_unfolding_all assumption) ?_ | with_reducible refine p_kinF (by first | with_unfolding_all rfl | with_unfolding_all assumption) ?_ | with_reducible refine p_nkinT (by first | with_unfolding_all rfl | with_unfolding_all assumption) ?_ | with_reducible refine p_nkinF (by first | with_unfolding_all rfl | with_unfolding_all assumption) ?_ | with_reducible refine p_T (by with_unfolding_all rfl) ?_ | with_reducible refine p_F (by with_unfolding_all rfl) ?_ | with_reducible refine And.intro (a := List.length _ ≤ sizeLine) szl ?_ | with_reducible refine And.intro (a := List.length _ = _) (by with_unfolding_all rfl) ?_))
      exact q _ _ _ (fmod_lo hm) (fmod_hi hm) sup_same only_sup
    · (repeat' (first | with_reducible refine p_seq ?_ | with_reducible refine p_next ?_ | with_reducible refine p_var (by with_unfolding_all rfl) ?_ | with_reducible refine p_c ?_ | with_reducible refine p_op ?_ | with_reducible refine p_cb ?_ | with_reducible refine p_call ?_ | with_reducible refine p_cons ?_ | with_reducible refine p_nil ?_ | with_reducible refine p_tup ?_ | with_reducible refine p_lst ?_ | with_reducible refine p_b ?_ | with_reducible refine p_qb ?_ | with_reducible refine p_and ?_ | with_reducible refine p_or ?_ | with_reducible refine p_not ?_ | with_reducible refine p_andV ?_ | with_reducible refine p_orV ?_ | with_reducible refine p_notV ?_ | with_reducible refine p_if ?_ | with_reducible refine p_ifS ?_ | with_reducible refine p_un ?_ | with_reducible refine p_neg ?_ | with_reducible refine p_ret ?_ | with_reducible refine p_retN ?_ | with_reducible refine p_drop ?_ | with_reducible refine p_asg' ?_ | with_reducible refine p_par ?_ | with_reducible refine p_setI ?_ | with_reducible refine p_sl ?_ | with_reducible refine p_noPart ?_ | with_reducible refine p_part ?_ | with_reducible refine p_partI ?_ | with_reducible refine p_kin ?_ | with_reducible refine p_kget ?_ | with_reducible refine p_lm ?_ | with_reducible refine p_for ?_ | with_reducible refine p_seqI ?_ | with_reducible refine p_seqL ?_ | with_reducible refine p_seqT ?_ | with_reducible refine p_rng1 ?_ | with_reducible refine p_rng1I (by unfold rng1; first | decide | (constructor <;> omega)) ?_ | with_reducible refine p_yes ?_ | with_reducible refine p_chain ?_ | with_reducible refine p_callK ?_ | with_reducible refine p_lc ?_ | with_reducible refine p_disp fun _ hp0 => ?_ | with_reducible refine p_get2 ?_ | with_reducible refine p_bindM (by with_unfolding_all rfl) ?_ | with_reducible refine p_mulI (by first | decide | omega) (by first | decide | omega) ?_ | with_reducible refine p_mod (by first | decide | omega | assumption) ?_ | with_reducible refine p_sub ?_ | with_reducible refine p_min ?_ | with_reducible refine p_max ?_ | with_reducible refine p_ix0 ?_ | with_reducible refine p_ix0L ?_ | with_reducible refine p_inT (by first | decide +kernel | exact ⟨rfl, rfl⟩ | (simp [flD]; done)) ?_ | with_reducible refine p_notInT (by first | decide +kernel | exact ⟨rfl, rfl⟩ | (simp [flD]; done)) ?_ | with_reducible refine p_fdiv (by first | assumption | decide) ?_ | with_reducible refine p_pow (by unfold CPow; decide) ?_ | with_reducible refine p_lt ?_ | with_reducible refine p_le ?_ | with_reducible refine p_gt ?_ | with_reducible refine p_ge ?_ | with_reducible refine p_eqI ?_ | with_reducible refine p_neI ?_ | with_reducible refine p_eqL (by first | decide +kernel | assumption) (by first | decide +kernel | assumption) ?_ | with_reducible refine p_neL (by first | decide +kernel | assumption) (by first | decide +kernel | assumption) ?_ | with_reducible refine p_eqT (by first | decide +kernel | assumption) (by first | decide +kernel | assumption) ?_ | with_reducible refine p_neT (by first | decide +kernel | assumption) (by first | decide +kernel | assumption) ?_ | with_reducible refine p_eqS (by first | decide +kernel | assumption) (by first | decide +kernel | assumption) ?_ | with_reducible refine p_neS (by first | decide +kernel | assumption) (by first | decide +kernel | assumption) ?_ | with_reducible refine p_isi (by with_unfolding_all rfl) (by decide) ?_ | with_reducible refine p_lmO (by first | assumption | exact sup_same) ?_ | with_reducible refine p_lmE (by first | assumption | exact sup_same) (by with_unfolding_all rfl) (by (first | exact True.intro | exact szl | (with_reducible assumption) | decide | (simp only [List.length_cons, List.length_nil]; first | exact szl | omega) | omega)) ?_ | with_reducible refine p_freeze (by with_unfolding_all rfl) (by first | assumption | exact sup_same) ?_ | with_reducible refine p_dispE (by assumption) (by with_unfolding_all rfl) ?_ | with_reducible refine p_getI (by with_unfolding_all rfl) ?_ | with_reducible refine p_getS (by with_unfolding_all rfl) (by with_unfolding_all rfl) (by first | with_unfolding_all rfl | with_unfolding_all assumption) ?_ | with_reducible refine p_getN (by with_unfolding_all rfl) (by with_unfolding_all rfl) (by first | with_unfolding_all rfl | with_unfolding_all assumption) ?_ | with_reducible refine p_r (by with_unfolding_all rfl) (by (first | exact True.intro | exact szl | (with_reducible assumption) | decide | (simp only [List.length_cons, List.length_nil]; first | exact szl | omega) | omega)) ?_ | with_reducible refine p_rc (by with_unfolding_all rfl) (by (first | exact True.intro | exact szl | (with_reducible assumption) | decide | (simp only [List.length_cons, List.length_nil]; first | exact szl | omega) | omega)) ?_ | with_reducible refine p_ixS (by first | assumption | exact sup_same) (by with_unfolding_all rfl) ?_ | with_reducible refine p_set (by first | assumption | exact sup_same) (by with_unfolding_all rfl) ?_ | with_reducible refine p_onE (by with_unfolding_all rfl) (by (first | exact True.intro | exact szl | (with_reducible assumption) | decide | (simp only [List.length_cons, List.length_nil]; first | exact szl | omega) | omega)) ?_ | with_reducible refine p_kgetS (by first | with_unfolding_all rfl | with_unfolding_all assumption) ?_ | with_reducible refine p_kinT (by first | with_unfolding_all rfl | with_unfolding_all assumption) ?_ | with_reducible refine p_kinF (by first | with_unfolding_all rfl | with_unfolding_all assumption) ?_ | with_reducible refine p_nkinT (by first | with_unfolding_all rfl | with_unfolding_all assumption) ?_ | with_reducible refine p_nkinF (by first | with_unfolding_all rfl | with_unfolding_all assumption) ?_ | with_reducible refine p_T (by with_unfolding_all rfl) ?_ | with_reducible refine p_F (by with_unfolding_all rfl) ?_ | with_reducible refine And.intro (a := List.length _ ≤ sizeLine) szl ?_ | with_reducible refine And.intro (a := List.length _ = _) (by with_unfolding_all rfl) ?_))
      exact spin_m hm ht fun k h0 h1 => q k a _ h0 h1 h Only.refl
  · (repeat' (first | with_reducible refine p_seq ?_ | with_reducible refine p_next ?_ | with_reducible refine p_var (by with_unfolding_all rfl) ?_ | with_reducible refine p_c ?_ | with_reducible refine p_op ?_ | with_reducible refine p_cb ?_ | with_reducible refine p_call ?_ | with_reducible refine p_cons ?_ | with_reducible refine p_nil ?_ | with_reducible refine p_tup ?_ | with_reducible refine p_lst ?_ | with_reducible refine p_b ?_ | with_reducible refine p_qb ?_ | with_reducible refine p_and ?_ | with_reducible refine p_or ?_ | with_reducible refine p_not ?_ | with_reducible refine p_andV ?_ | with_reducible refine p_orV ?_ | with_reducible refine p_notV ?_ | with_reducible refine p_if ?_ | with_reducible refine p_ifS ?_ | with_reducible refine p_un ?_ | with_reducible refine p_neg ?_ | with_reducible refine p_ret ?_ | with_reducible refine p_retN ?_ | with_reducible refine p_drop ?_ | with_reducible refine p_asg' ?_ | with_reducible refine p_par ?_ | with_reducible refine p_setI ?_ | with_reducible refine p_sl ?_ | with_reducible refine p_noPart ?_ | with_reducible refine p_part ?_ | with_reducible refine p_partI ?_ | with_reducible refine p_kin ?_ | with_reducible refine p_kget ?_ | with_reducible refine p_lm ?_ | with_reducible refine p_for ?_ | with_reducible refine p_seqI ?_ | with_reducible refine p_seqL ?_ | with_reducible refine p_seqT ?_ | with_reducible refine p_rng1 ?_ | with_reducible refine p_rng1I (by unfold rng1; first | decide | (constructor <;> omega)) ?_ | with_reducible refine p_yes ?_ | with_reducible refine p_chain ?_ | with_reducible refine p_callK ?_ | with_reducible refine p_lc ?_ | with_reducible refine p_disp fun _ hp0 => ?_ | with_reducible refine p_get2 ?_ | with_reducible refine p_bindM (by with_unfolding_all rfl) ?_ | with_reducible refine p_mulI (by first | decide | omega) (by first | decide | omega) ?_ | with_reducible refine p_mod (by first | decide | omega | assumption) ?_ | with_reducible refine p_sub ?_ | with_reducible refine p_min ?_ | with_reducible refine p_max ?_ | with_reducible refine p_ix0 ?_ | with_reducible refine p_ix0L ?_ | with_reducible refine p_inT (by first | decide +kernel | exact ⟨rfl, rfl⟩ | (simp [flD]; done)) ?_ | with_reducible refine p_notInT (by first | decide +kernel | exact ⟨rfl, rfl⟩ | (simp [flD]; done)) ?_ | with_reducible refine p_fdiv (by first | assumption | decide) ?_ | with_reducible refine p_pow (by unfold CPow; decide) ?_ | with_reducible refine p_lt ?_ | with_reducible refine p_le ?_ | with_reducible refine p_gt ?_ | with_reducible refine p_ge ?_ | with_reducible refine p_eqI ?_ | with_reducible refine p_neI ?_ | with_reducible refine p_eqL (by first | decide +kernel | assumption) (by first | decide +kernel | assumption) ?_ | with_reducible refine p_neL (by first | decide +kernel | assumption) (by first | decide +kernel | assumption) ?_ | with_reducible refine p_eqT (by first | decide +kernel | assumption) (by first | decide +kernel | assumption) ?_ | with_reducible refine p_neT (by first | decide +kernel | assumption) (by first | decide +kernel | assumption) ?_ | with_reducible refine p_eqS (by first | decide +kernel | assumption) (by first | decide +kernel | assumption) ?_ | with_reducible refine p_neS (by first | decide +kernel | assumption) (by first | decide +kernel | assumption) ?_ | with_reducible refine p_isi (by with_unfolding_all rfl) (by decide) ?_ | with_reducible refine p_lmO (by first | assumption | exact sup_same) ?_ | with_reducible refine p_lmE (by first | assumption | exact sup_same) (by with_unfolding_all rfl) (by (first | exact True.intro | exact szl | (with_reducible assumption) | decide | (simp only [List.length_cons, List.length_nil]; first | exact szl | omega) | omega)) ?_ | with_reducible refine p_freeze (by with_unfolding_all rfl) (by first | assumption | exact sup_same) ?_ | with_reducible refine p_dispE (by assumption) (by with_unfolding_all rfl) ?_ | with_reducible refine p_getI (by with_unfolding_all rfl) ?_ | with_reducible refine p_getS (by with_unfolding_all rfl) (by with_unfolding_all rfl) (by first | with_unfolding_all rfl | with_unfolding_all assumption) ?_ | with_reducible refine p_getN (by with_unfolding_all rfl) (by with_unfolding_all rfl) (by first | with_unfolding_all rfl | with_unfolding_all assumption) ?_ | with_reducible refine p_r (by with_unfolding_all rfl) (by (first | exact True.intro | exact szl | (with_reducible assumption) | decide | (simp only [List.length_cons, List.length_nil]; first | exact szl | omega) | omega)) ?_ | with_reducible refine p_rc (by with_unfolding_all rfl) (by (first | exact True.intro | exact szl | (with_reducible assumption) | decide | (simp only [List.length_cons, List.length_nil]; first | exact szl | omega) | omega)) ?_ | with_reducible refine p_ixS (by first | assumption | exact sup_same) (by with_unfolding_all rfl) ?_ | with_reducible refine p_set (by first | assumption | exact sup_same) (by with_unfolding_all rfl) ?_ | with_reducible refine p_onE (by with_unfolding_all rfl) (by (first | exact True.intro | exact szl | (with_reducible assumption) | decide | (simp only [List.length_cons, List.length_nil]; first | exact szl | omega) | omega)) ?_ | with_reducible refine p_kgetS (by first | with_unfolding_all rfl | with_unfolding_all assumption) ?_ | with_reducible refine p_kinT (by first | with_unfolding_all rfl | with_unfolding_all assumption) ?_ | with_reducible refine p_kinF (by first | with_unfolding_all rfl | with_unfolding_all assumption) ?_ | with_reducible refine p_nkinT (by first | with_unfolding_all rfl | with_unfolding_all assumption) ?_ | with_reducible refine p_nkinF (by first | with_unfolding_all rfl | with_unfolding_all assumption) ?_ | with_reducible refine p_T (by with_unfolding_all rfl) ?_ | with_reducible refine p_F (by with_unfolding_all rfl) ?_ | with_reducible refine And.intro (a := List.length _ ≤ sizeLine) szl ?_ | with_reducible refine And.intro (a := List.length _ = _) (by with_unfolding_all rfl) ?_))
    exact spin_m hm ht fun k h0 h1 => q k a _ h0 h1 h Only.refl
theorem spin_p {ns : List Int} {y : Addr} {m a c : Int} {t : Nat} {S : Sto} {Q : QD} {nx : Env' → Sto → Prop} (hns : ns.length ≤ 63) (h : S y = some (.lst [.lst (ns.map D.int), .int a, .int t, .int c])) (hm : 0 < m) (hm2 : m < 1073741824) (ht : t ≤ 1000000000)
    (q : ∀ k a' c' S', 0 ≤ k → k < m → S' y = some (.lst [.lst (ns.map D.int), .int a', .int ((t + 1 : Nat) : Int), .int c']) → Only y S S' → Q (.int k) S') : spinR ⟨nx, Q, fun _ _ => False, fun _ _ => False⟩ [some (.ref y), some (.int m), none, none, none, none, none] S := by
  unfold spinR
  have hf : CFd a m := .inl ⟨by omega, by omega⟩
  have hok := ok_ints ns
  (repeat' (first | with_reducible refine p_seq ?_ | with_reducible refine p_next ?_ | with_reducible refine p_var (by with_unfolding_all rfl) ?_ | with_reducible refine p_c ?_ | with_reducible refine p_op ?_ | with_reducible refine p_cb ?_ | with_reducible refine p_call ?_ | with_reducible refine p_cons ?_ | with_reducible refine p_nil ?_ | with_reducible refine p_tup ?_ | with_reducible refine p_lst ?_ | with_reducible refine p_b ?_ | with_reducible refine p_qb ?_ | with_reducible refine p_and ?_ | with_reducible refine p_or ?_ | with_reducible refine p_not ?_ | with_reducible refine p_andV ?_ | with_reducible refine p_orV ?_ | with_reducible refine p_notV ?_ | with_reducible refine p_if ?_ | with_reducible refine p_ifS ?_ | with_reducible refine p_un ?_ | with_reducible refine p_neg ?_ | with_reducible refine p_ret ?_ | with_reducible refine p_retN ?_ | with_reducible refine p_drop ?_ | with_reducible refine p_asg' ?_ | with_reducible refine p_par ?_ | with_reducible refine p_setI ?_ | with_reducible refine p_sl ?_ | with_reducible refine p_noPart ?_ | with_reducible refine p_part ?_ | with_reducible refine p_partI ?_ | with_reducible refine p_kin ?_ | with_reducible refine p_kget ?_ | with_reducible refine p_lm ?_ | with_reducible refine p_for ?_ | with_reducible refine p_seqI ?_ | with_reducible refine p_seqL ?_ | with_reducible refine p_seqT ?_ | with_reducible refine p_rng1 ?_ | with_reducible refine p_rng1I (by unfold rng1; first | decide | (constructor <;> omega)) ?_ | with_reducible refine p_yes ?_ | with_reducible refine p_chain ?_ | with_reducible refine p_callK ?_ | with_reducible refine p_lc ?_ | with_reducible refine p_disp fun _ hp0 => ?_ | with_reducible refine p_get2 ?_ | with_reducible refine p_bindM (by with_unfolding_all rfl) ?_ | with_reducible refine p_mulI (by first | decide | omega) (by first | decide | omega) ?_ | with_reducible refine p_mod (by first | decide | omega | assumption) ?_ | with_reducible refine p_sub ?_ | with_reducible refine p_min ?_ | with_reducible refine p_max ?_ | with_reducible refine p_ix0 ?_ | with_reducible refine p_ix0L ?_ | with_reducible refine p_inT (by first | decide +kernel | exact ⟨rfl, rfl⟩ | (simp [flD]; done)) ?_ | with_reducible refine p_notInT (by first | decide +kernel | exact ⟨rfl, rfl⟩ | (simp [flD]; done)) ?_ | with_reducible refine p_fdiv (by first | assumption | decide) ?_ | with_reducible refine p_pow (by unfold CPow; decide) ?_ | with_reducible refine p_lt ?_ | with_reducible refine p_le ?_ | with_reducible refine p_gt ?_ | with_reducible refine p_ge ?_ | with_reducible refine p_eqI ?_ | with_reducible refine p_neI ?_ | with_reducible refine p_eqL (by first | decide +kernel | assumption) (by first | decide +kernel | assumption) ?_ | with_reducible refine p_neL (by first | decide +kernel | assumption) (by first | decide +kernel | assumption) ?_ | with_reducible refine p_eqT (by first | decide +kernel | assumption) (by first | decide +kernel | assumption) ?_ | with_reducible refine p_neT (by first | decide +kernel | assumption) (by first | decide +kernel | assumption) ?_ | with_reducible refine p_eqS (by first | decide +kernel | assumption) (by first | decide +kernel | assumption) ?_ | with_reducible refine p_neS (by first | decide +kernel | assumption) (by first | decide +kernel | assumption) ?_ | with_reducible refine p_isi (by with_unfolding_all rfl) (by decide) ?_ | with_reducible refine p_lmO (by first | assumption | exact sup_same) ?_ | with_reducible refine p_lmE (by first | assumption | exact sup_same) (by with_unfolding_all rfl) (by (first | exact True.intro | exact szl | (with_reducible assumption) | decide | (simp only [List.length_cons, List.length_nil]; first | exact szl | omega) | omega)) ?_ | with_reducible refine p_freeze (by with_unfolding_all rfl) (by first | assumption | exact sup_same) ?_ | with_reducible refine p_dispE (by assumption) (by with_unfolding_all rfl) ?_ | with_reducible refine p_getI (by with_unfolding_all rfl) ?_ | with_reducible refine p_getS (by with_unfolding_all rfl) (by with_unfolding_all rfl) (by first | with_unfolding_all rfl | with_unfolding_all assumption) ?_ | with_reducible refine p_getN (by with_unfolding_all rfl) (by with_unfolding_all rfl) (by first | with_unfolding_all rfl | with_unfolding_all assumption) ?_ | with_reducible refine p_r (by with_unfolding_all rfl) (by (first | exact True.intro | exact szl | (with_reducible assumption) | decide | (simp only [List.length_cons, List.length_nil]; first | exact szl | omega) | omega)) ?_ | with_reducible refine p_rc (by with_unfolding_all rfl) (by (first | exact True.intro | exact szl | (with_reducible assumption) | decide | (simp only [List.length_cons, List.length_nil]; first | exact szl | omega) | omega)) ?_ | with_reducible refine p_ixS (by first | assumption | exact sup_same) (by with_unfolding_all rfl) ?_ | with_reducible refine p_set (by first | assumption | exact sup_same) (by with_unfolding_all rfl) ?_ | with_reducible refine p_onE (by with_unfolding_all rfl) (by (first | exact True.intro | exact szl | (with_reducible assumption) | decide | (simp only [List.length_cons, List.length_nil]; first | exact szl | omega) | omega)) ?_ | with_reducible refine p_kgetS (by first | with_unfolding_all rfl | with_unfolding_all assumption) ?_ | with_reducible refine p_kinT (by first | with_unfolding_all rfl | with_unfolding_all assumption) ?_ | with_reducible refine p_kinF (by first | with_unfolding_all rfl | with_unfolding_all assumption) ?_ | with_reducible refine p_nkinT (by first | with_unfolding_all rfl | with_unfolding_all assumption) ?_ | with_reducible refine p_nkinF (by first | with_unfolding_all rfl | with_unfolding_all assumption) ?_ | with_reducible refine p_T (by with_unfolding_all rfl) ?_ | with_reducible refine p_F (by with_unfolding_all rfl) ?_ | with_reducible refine And.intro (a := List.length _ ≤ sizeLine) szl ?_ | with_reducible refine And.intro (a := List.length _ = _) (by with_unfolding_all rfl) ?_))
  refine p_iteD (fun h1 => ?_) (fun h1 => ?_)
  · (repeat' (first | with_reducible refine p_seq ?_ | with_reducible refine p_next ?_ | with_reducible refine p_var (by with_unfolding_all rfl) ?_ | with_reducible refine p_c ?_ | with_reducible refine p_op ?_ | with_reducible refine p_cb ?_ | with_reducible refine p_call ?_ | with_reducible refine p_cons ?_ | with_reducible refine p_nil ?_ | with_reducible refine p_tup ?_ | with_reducible refine p_lst ?_ | with_reducible refine p_b ?_ | with_reducible refine p_qb ?_ | with_reducible refine p_and ?_ | with_reducible refine p_or ?_ | with_reducible refine p_not ?_ | with_reducible refine p_andV ?_ | with_reducible refine p_orV ?_ | with_reducible refine p_notV ?_ | with_reducible refine p_if ?_ | with_reducible refine p_ifS ?_ | with_reducible refine p_un ?_ | with_reducible refine p_neg ?_ | with_reducible refine p_ret ?_ | with_reducible refine p_retN ?_ | with_reducible refine p_drop ?_ | with_reducible refine p_asg' ?_ | with_reducible refine p_par ?_ | with_reducible refine p_setI ?_ | with_reducible refine p_sl ?_ | with_reducible refine p_noPart ?_ | with_reducible refine p_part ?_ | with_reducible refine p_partI ?_ | with_reducible refine p_kin ?_ | with_reducible refine p_kget ?_ | with_reducible refine p_lm ?_ | with_reducible refine p_for ?_ | with_reducible refine p_seqI ?_ | with_reducible refine p_seqL ?_ | with_reducible refine p_seqT ?_ | with_reducible refine p_rng1 ?_ | with_reducible refine p_rng1I (by unfold rng1; first | decide | (constructor <;> omega)) ?_ | with_reducible refine p_yes ?_ | with_reducible refine p_chain ?_ | with_reducible refine p_callK ?_ | with_reducible refine p_lc ?_ | with_reducible refine p_disp fun _ hp0 => ?_ | with_reducible refine p_get2 ?_ | with_reducible refine p_bindM (by with_unfolding_all rfl) ?_ | with_reducible refine p_mulI (by first | decide | omega) (by first | decide | omega) ?_ | with_reducible refine p_mod (by first | decide | omega | assumption) ?_ | with_reducible refine p_sub ?_ | with_reducible refine p_min ?_ | with_reducible refine p_max ?_ | with_reducible refine p_ix0 ?_ | with_reducible refine p_ix0L ?_ | with_reducible refine p_inT (by first | decide +kernel | exact ⟨rfl, rfl⟩ | (simp [flD]; done)) ?_ | with_reducible refine p_notInT (by first | decide +kernel | exact ⟨rfl, rfl⟩ | (simp [flD]; done)) ?_ | with_reducible refine p_fdiv (by first | assumption | decide) ?_ | with_reducible refine p_pow (by unfold CPow; decide) ?_ | with_reducible refine p_lt ?_ | with_reducible refine p_le ?_ | with_reducible refine p_gt ?_ | with_reducible refine p_ge ?_ | with_reducible refine p_eqI ?_ | with_reducible refine p_neI ?_ | with_reducible refine p_eqL (by first | decide +kernel | assumption) (by first | decide +kernel | assumption) ?_ | with_reducible refine p_neL (by first | decide +kernel | assumption) (by first | decide +kernel | assumption) ?_ | with_reducible refine p_eqT (by first | decide +kernel | assumption) (by first | decide +kernel | assumption) ?_ | with_reducible refine p_neT (by first | decide +kernel | assumption) (by first | decide +kernel | assumption) ?_ | with_reducible refine p_eqS (by first | decide +kernel | assumption) (by first | decide +kernel | assumption) ?_ | with_reducible refine p_neS (by first | decide +kernel | assumption) (by first | decide +kernel | assumption) ?_ | with_reducible refine p_isi (by with_unfolding_all rfl) (by decide) ?_ | with_reducible refine p_lmO (by first | assumption | exact sup_same) ?_ | with_reducible refine p_lmE (by first | assumption | exact sup_same) (by with_unfolding_all rfl) (by (first | exact True.intro | exact szl | (with_reducible assumption) | decide | (simp only [List.length_cons, List.length_nil]; first | exact szl | omega) | omega)) ?_ | with_reducible refine p_freeze (by with_unfolding_all rfl) (by first | assumption | exact sup_same) ?_ | with_reducible refine p_dispE (by assumption) (by with_unfolding_all rfl) ?_ | with_reducible refine p_getI (by with_unfolding_all rfl) ?_ | with_reducible refine p_getS (by with_unfolding_all rfl) (by with_unfolding_all rfl) (by first | with_unfolding_all rfl | with_unfolding_all assumption) ?_ | with_reducible refine p_getN (by with_unfolding_all rfl) (by with_unfolding_all rfl) (by first | with_unfolding_all rfl | with_unfolding_all assumption) ?_ | with_reducible refine p_r (by with_unfolding_all rfl) (by (first | exact True.intro | exact szl | (with_reducible assumption) | decide | (simp only [List.length_cons, List.length_nil]; first | exact szl | omega) | omega)) ?_ | with_reducible refine p_rc (by with_unfolding_all rfl) (by (first | exact True.intro | exact szl | (with_reducible assumption) | decide | (simp only [List.length_cons, List.length_nil]; first | exact szl | omega) | omega)) ?_ | with_reducible refine p_ixS (by first | assumption | exact sup_same) (by with_unfolding_all rfl) ?_ | with_reducible refine p_set (by first | assumption | exact sup_same) (by with_unfolding_all rfl) ?_ | with_reducible refine p_onE (by with_unfolding_all rfl) (by (first | exact True.intro | exact szl | (with_reducible assumption) | decide | (simp only [List.length_cons, List.length_nil]; first | exact szl | omega) | omega)) ?_ | with_reducible refine p_kgetS (by first | with_unfolding_all rfl | with_unfolding_all assumption) ?_ | with_reducible refine p_kinT (by first | with_unfolding_all rfl | with_unfolding_all assumption) ?_ | with_reducible refine p_kinF (by first | with_unfolding_all rfl | with_unfolding_all assumption) ?_ | with_reducible refine p_nkinT (by first | with_unfolding_all rfl | with_unfolding_all assumption) ?_ | with_reducible refine p_nkinF (by first | with_unfolding_all rfl | with_unfolding_all assumption) ?_ | with_reducible refine p_T (by with_unfolding_all rfl) ?_ | with_reducible refine p_F (by with_unfolding_all rfl) ?_ | with_reducible refine And.intro (a := List.length _ ≤ sizeLine) szl ?_ | with_reducible refine And.intro (a := List.length _ = _) (by with_unfolding_all rfl) ?_))
    exact q _ _ _ _ (fmod_lo hm) (fmod_hi hm) sup_same (only_sup.trans only_sup)
  · have hS : (sup (sup S y (.lst [.lst (ns.map D.int), .int a, .int (t + 1), .int c])) y (.lst [.lst (ns.map D.int), .int a, .int (t + 1), .int (c + 1)])) y = some (.lst [.lst (ns.map D.int), .int a, .int (t + 1), .int (c + 1)]) := sup_same
    have hO : Only y S (sup (sup S y (.lst [.lst (ns.map D.int), .int a, .int (t + 1), .int c])) y (.lst [.lst (ns.map D.int), .int a, .int (t + 1), .int (c + 1)])) := only_sup.trans only_sup
    (repeat' (first | with_reducible refine p_seq ?_ | with_reducible refine p_next ?_ | with_reducible refine p_var (by with_unfolding_all rfl) ?_ | with_reducible refine p_c ?_ | with_reducible refine p_op ?_ | with_reducible refine p_cb ?_ | with_reducible refine p_call ?_ | with_reducible refine p_cons ?_ | with_reducible refine p_nil ?_ | with_reducible refine p_tup ?_ | with_reducible refine p_lst ?_ | with_reducible refine p_b ?_ | with_reducible refine p_qb ?_ | with_reducible refine p_and ?_ | with_reducible refine p_or ?_ | with_reducible refine p_not ?_ | with_reducible refine p_andV ?_ | with_reducible refine p_orV ?_ | with_reducible refine p_notV ?_ | with_reducible refine p_if ?_ | with_reducible refine p_ifS ?_ | with_reducible refine p_un ?_ | with_reducible refine p_neg ?_ | with_reducible refine p_ret ?_ | with_reducible refine p_retN ?_ | with_reducible refine p_drop ?_ | with_reducible refine p_asg' ?_ | with_reducible refine p_par ?_ | with_reducible refine p_setI ?_ | with_reducible refine p_sl ?_ | with_reducible refine p_noPart ?_ | with_reducible refine p_part ?_ | with_reducible refine p_partI ?_ | with_reducible refine p_kin ?_ | with_reducible refine p_kget ?_ | with_reducible refine p_lm ?_ | with_reducible refine p_for ?_ | with_reducible refine p_seqI ?_ | with_reducible refine p_seqL ?_ | with_reducible refine p_seqT ?_ | with_reducible refine p_rng1 ?_ | with_reducible refine p_rng1I (by unfold rng1; first | decide | (constructor <;> omega)) ?_ | with_reducible refine p_yes ?_ | with_reducible refine p_chain ?_ | with_reducible refine p_callK ?_ | with_reducible refine p_lc ?_ | with_reducible refine p_disp fun _ hp0 => ?_ | with_reducible refine p_get2 ?_ | with_reducible refine p_bindM (by with_unfolding_all rfl) ?_ | with_reducible refine p_mulI (by first | decide | omega) (by first | decide | omega) ?_ | with_reducible refine p_mod (by first | decide | omega | assumption) ?_ | with_reducible refine p_sub ?_ | with_reducible refine p_min ?_ | with_reducible refine p_max ?_ | with_reducible refine p_ix0 ?_ | with_reducible refine p_ix0L ?_ | with_reducible refine p_inT (by first | decide +kernel | exact ⟨rfl, rfl⟩ | (simp [flD]; done)) ?_ | with_reducible refine p_notInT (by first | decide +kernel | exact ⟨rfl, rfl⟩ | (simp [flD]; done)) ?_ | with_reducible refine p_fdiv (by first | assumption | decide) ?_ | with_reducible refine p_pow (by unfold CPow; decide) ?_ | with_reducible refine p_lt ?_ | with_reducible refine p_le ?_ | with_reducible refine p_gt ?_ | with_reducible refine p_ge ?_ | with_reducible refine p_eqI ?_ | with_reducible refine p_neI ?_ | with_reducible refine p_eqL (by first | decide +kernel | assumption) (by first | decide +kernel | assumption) ?_ | with_reducible refine p_neL (by first | decide +kernel | assumption) (by first | decide +kernel | assumption) ?_ | with_reducible refine p_eqT (by first | decide +kernel | assumption) (by first | decide +kernel | assumption) ?_ | with_reducible refine p_neT (by first | decide +kernel | assumption) (by first | decide +kernel | assumption) ?_ | with_reducible refine p_eqS (by first | decide +kernel | assumption) (by first | decide +kernel | assumption) ?_ | with_reducible refine p_neS (by first | decide +kernel | assumption) (by first | decide +kernel | assumption) ?_ | with_reducible refine p_isi (by with_unfolding_all rfl) (by decide) ?_ | with_reducible refine p_lmO (by first | assumption | exact sup_same) ?_ | with_reducible refine p_lmE (by first | assumption | exact sup_same) (by with_unfolding_all rfl) (by (first | exact True.intro | exact szl | (with_reducible assumption) | decide | (simp only [List.length_cons, List.length_nil]; first | exact szl | omega) | omega)) ?_ | with_reducible refine p_freeze (by with_unfolding_all rfl) (by first | assumption | exact sup_same) ?_ | with_reducible refine p_dispE (by assumption) (by with_unfolding_all rfl) ?_ | with_reducible refine p_getI (by with_unfolding_all rfl) ?_ | with_reducible refine p_getS (by with_unfolding_all rfl) (by with_unfolding_all rfl) (by first | with_unfolding_all rfl | with_unfolding_all assumption) ?_ | with_reducible refine p_getN (by with_unfolding_all rfl) (by with_unfolding_all rfl) (by first | with_unfolding_all rfl | with_unfolding_all assumption) ?_ | with_reducible refine p_r (by with_unfolding_all rfl) (by (first | exact True.intro | exact szl | (with_reducible assumption) | decide | (simp only [List.length_cons, List.length_nil]; first | exact szl | omega) | omega)) ?_ | with_reducible refine p_rc (by with_unfolding_all rfl) (by (first | exact True.intro | exact szl | (with_reducible assumption) | decide | (simp only [List.length_cons, List.length_nil]; first | exact szl | omega) | omega)) ?_ | with_reducible refine p_ixS (by first | assumption | exact sup_same) (by with_unfolding_all rfl) ?_ | with_reducible refine p_set (by first | assumption | exact sup_same) (by with_unfolding_all rfl) ?_ | with_reducible refine p_onE (by with_unfolding_all rfl) (by (first | exact True.intro | exact szl | (with_reducible assumption) | decide | (simp only [List.length_cons, List.length_nil]; first | exact szl | omega) | omega)) ?_ | with_reducible refine p_kgetS (by first | with_unfolding_all rfl | with_unfolding_all assumption) ?_ | with_reducible refine p_kinT (by first | with_unfolding_all rfl | with_unfolding_all assumption) ?_ | with_reducible refine p_kinF (by first | with_unfolding_all rfl | with_unfolding_all assumption) ?_ | with_reducible refine p_nkinT (by first | with_unfolding_all rfl | with_unfolding_all assumption) ?_ | with_reducible refine p_nkinF (by first | with_unfolding_all rfl | with_unfolding_all assumption) ?_ | with_reducible refine p_T (by with_unfolding_all rfl) ?_ | with_reducible refine p_F (by with_unfolding_all rfl) ?_ | with_reducible refine And.intro (a := List.length _ ≤ sizeLine) szl ?_ | with_reducible refine And.intro (a := List.length _ = _) (by with_unfolding_all rfl) ?_))
    cases ns with
    | nil =>
      (repeat' (first | with_reducible refine p_seq ?_ | with_reducible refine p_next ?_ | with_reducible refine p_var (by with_unfolding_all rfl) ?_ | with_reducible refine p_c ?_ | with_reducible refine p_op ?_ | with_reducible refine p_cb ?_ | with_reducible refine p_call ?_ | with_reducible refine p_cons ?_ | with_reducible refine p_nil ?_ | with_reducible refine p_tup ?_ | with_reducible refine p_lst ?_ | with_reducible refine p_b ?_ | with_reducible refine p_qb ?_ | with_reducible refine p_and ?_ | with_reducible refine p_or ?_ | with_reducible refine p_not ?_ | with_reducible refine p_andV ?_ | with_reducible refine p_orV ?_ | with_reducible refine p_notV ?_ | with_reducible refine p_if ?_ | with_reducible refine p_ifS ?_ | with_reducible refine p_un ?_ | with_reducible refine p_neg ?_ | with_reducible refine p_ret ?_ | with_reducible refine p_retN ?_ | with_reducible refine p_drop ?_ | with_reducible refine p_asg' ?_ | with_reducible refine p_par ?_ | with_reducible refine p_setI ?_ | with_reducible refine p_sl ?_ | with_reducible refine p_noPart ?_ | with_reducible refine p_part ?_ | with_reducible refine p_partI ?_ | with_reducible refine p_kin ?_ | with_reducible refine p_kget ?_ | with_reducible refine p_lm ?_ | with_reducible refine p_for ?_ | with_reducible refine p_seqI ?_ | with_reducible refine p_seqL ?_ | with_reducible refine p_seqT ?_ | with_reducible refine p_rng1 ?_ | with_reducible refine p_rng1I (by unfold rng1; first | decide | (constructor <;> omega)) ?_ | with_reducible refine p_yes ?_ | with_reducible refine p_chain ?_ | with_reducible refine p_callK ?_ | with_reducible refine p_lc ?_ | with_reducible refine p_disp fun _ hp0 => ?_ | with_reducible refine p_get2 ?_ | with_reducible refine p_bindM (by with_unfolding_all rfl) ?_ | with_reducible refine p_mulI (by first | decide | omega) (by first | decide | omega) ?_ | with_reducible refine p_mod (by first | decide | omega | assumption) ?_ | with_reducible refine p_sub ?_ | with_reducible refine p_min ?_ | with_reducible refine p_max ?_ | with_reducible refine p_ix0 ?_ | with_reducible refine p_ix0L ?_ | with_reducible refine p_inT (by first | decide +kernel | exact ⟨rfl, rfl⟩ | (simp [flD]; done)) ?_ | with_reducible refine p_notInT (by first | decide +kernel | exact ⟨rfl, rfl⟩ | (simp [flD]; done)) ?_ | with_reducible refine p_fdiv (by first | assumption | decide) ?_ | with_reducible refine p_pow (by unfold CPow; decide) ?_ | with_reducible refine p_lt ?_ | with_reducible refine p_le ?_ | with_reducible refine p_gt ?_ | with_reducible refine p_ge ?_ | with_reducible refine p_eqI ?_ | with_reducible refine p_neI ?_ | with_reducible refine p_eqL (by first | decide +kernel | assumption) (by first | decide +kernel | assumption) ?_ | with_reducible refine p_neL (by first | decide +kernel | assumption) (by first | decide +kernel | assumption) ?_ | with_reducible refine p_eqT (by first | decide +kernel | assumption) (by first | decide +kernel | assumption) ?_ | with_reducible refine p_neT (by first | decide +kernel | assumption) (by first | decide +kernel | assumption) ?_ | with_reducible refine p_eqS (by first | decide +kernel | assumption) (by first | decide +kernel | assumption) ?_ | with_reducible refine p_neS (by first | decide +kernel | assumption) (by first | decide +kernel | assumption) ?_ | with_reducible refine p_isi (by with_unfolding_all rfl) (by decide) ?_ | with_reducible refine p_lmO (by first | assumption | exact sup_same) ?_ | with_reducible refine p_lmE (by first | assumption | exact sup_same) (by with_unfolding_all rfl) (by (first | exact True.intro | exact szl | (with_reducible assumption) | decide | (simp only [List.length_cons, List.length_nil]; first | exact szl | omega) | omega)) ?_ | with_reducible refine p_freeze (by with_unfolding_all rfl) (by first | assumption | exact sup_same) ?_ | with_reducible refine p_dispE (by assumption) (by with_unfolding_all rfl) ?_ | with_reducible refine p_getI (by with_unfolding_all rfl) ?_ | with_reducible refine p_getS (by with_unfolding_all rfl) (by with_unfolding_all rfl) (by first | with_unfolding_all rfl | with_unfolding_all assumption) ?_ | with_reducible refine p_getN (by with_unfolding_all rfl) (by with_unfolding_all rfl) (by first | with_unfolding_all rfl | with_unfolding_all assumption) ?_ | with_reducible refine p_r (by with_unfolding_all rfl) (by (first | exact True.intro | exact szl | (with_reducible assumption) | decide | (simp only [List.length_cons, List.length_nil]; first | exact szl | omega) | omega)) ?_ | with_reducible refine p_rc (by with_unfolding_all rfl) (by (first | exact True.intro | exact szl | (with_reducible assumption) | decide | (simp only [List.length_cons, List.length_nil]; first | exact szl | omega) | omega)) ?_ | with_reducible refine p_ixS (by first | assumption | exact sup_same) (by with_unfolding_all rfl) ?_ | with_reducible refine p_set (by first | assumption | exact sup_same) (by with_unfolding_all rfl) ?_ | with_reducible refine p_onE (by with_unfolding_all rfl) (by (first | exact True.intro | exact szl | (with_reducible assumption) | decide | (simp only [List.length_cons, List.length_nil]; first | exact szl | omega) | omega)) ?_ | with_reducible refine p_kgetS (by first | with_unfolding_all rfl | with_unfolding_all assumption) ?_ | with_reducible refine p_kinT (by first | with_unfolding_all rfl | with_unfolding_all assumption) ?_ | with_reducible refine p_kinF (by first | with_unfolding_all rfl | with_unfolding_all assumption) ?_ | with_reducible refine p_nkinT (by first | with_unfolding_all rfl | with_unfolding_all assumption) ?_ | with_reducible refine p_nkinF (by first | with_unfolding_all rfl | with_unfolding_all assumption) ?_ | with_reducible refine p_T (by with_unfolding_all rfl) ?_ | with_reducible refine p_F (by with_unfolding_all rfl) ?_ | with_reducible refine And.intro (a := List.length _ ≤ sizeLine) szl ?_ | with_reducible refine And.intro (a := List.length _ = _) (by with_unfolding_all rfl) ?_))
      exact spin_t hns hS hm hm2 ht fun k a' S' h0 h1 h2 h3 => q k a' _ S' h0 h1 h2 (hO.trans h3)
    | cons n r =>
      (repeat' (first | with_reducible refine p_seq ?_ | with_reducible refine p_next ?_ | with_reducible refine p_var (by with_unfolding_all rfl) ?_ | with_reducible refine p_c ?_ | with_reducible refine p_op ?_ | with_reducible refine p_cb ?_ | with_reducible refine p_call ?_ | with_reducible refine p_cons ?_ | with_reducible refine p_nil ?_ | with_reducible refine p_tup ?_ | with_reducible refine p_lst ?_ | with_reducible refine p_b ?_ | with_reducible refine p_qb ?_ | with_reducible refine p_and ?_ | with_reducible refine p_or ?_ | with_reducible refine p_not ?_ | with_reducible refine p_andV ?_ | with_reducible refine p_orV ?_ | with_reducible refine p_notV ?_ | with_reducible refine p_if ?_ | with_reducible refine p_ifS ?_ | with_reducible refine p_un ?_ | with_reducible refine p_neg ?_ | with_reducible refine p_ret ?_ | with_reducible refine p_retN ?_ | with_reducible refine p_drop ?_ | with_reducible refine p_asg' ?_ | with_reducible refine p_par ?_ | with_reducible refine p_setI ?_ | with_reducible refine p_sl ?_ | with_reducible refine p_noPart ?_ | with_reducible refine p_part ?_ | with_reducible refine p_partI ?_ | with_reducible refine p_kin ?_ | with_reducible refine p_kget ?_ | with_reducible refine p_lm ?_ | with_reducible refine p_for ?_ | with_reducible refine p_seqI ?_ | with_reducible refine p_seqL ?_ | with_reducible refine p_seqT ?_ | with_reducible refine p_rng1 ?_ | with_reducible refine p_rng1I (by unfold rng1; first | decide | (constructor <;> omega)) ?_ | with_reducible refine p_yes ?_ | with_reducible refine p_chain ?_ | with_reducible refine p_callK ?_ | with_reducible refine p_lc ?_ | with_reducible refine p_disp fun _ hp0 => ?_ | with_reducible refine p_get2 ?_ | with_reducible refine p_bindM (by with_unfolding_all rfl) ?_ | with_reducible refine p_mulI (by first | decide | omega) (by first | decide | omega) ?_ | with_reducible refine p_mod (by first | decide | omega | assumption) ?_ | with_reducible refine p_sub ?_ | with_reducible refine p_min ?_ | with_reducible refine p_max ?_ | with_reducible refine p_ix0 ?_ | with_reducible refine p_ix0L ?_ | with_reducible refine p_inT (by first | decide +kernel | exact ⟨rfl, rfl⟩ | (simp [flD]; done)) ?_ | with_reducible refine p_notInT (by first | decide +kernel | exact ⟨rfl, rfl⟩ | (simp [flD]; done)) ?_ | with_reducible refine p_fdiv (by first | assumption | decide) ?_ | with_reducible refine p_pow (by unfold CPow; decide) ?_ | with_reducible refine p_lt ?_ | with_reducible refine p_le ?_ | with_reducible refine p_gt ?_ | with_reducible refine p_ge ?_ | with_reducible refine p_eqI ?_ | with_reducible refine p_neI ?_ | with_reducible refine p_eqL (by first | decide +kernel | assumption) (by first | decide +kernel | assumption) ?_ | with_reducible refine p_neL (by first | decide +kernel | assumption) (by first | decide +kernel | assumption) ?_ | with_reducible refine p_eqT (by first | decide +kernel | assumption) (by first | decide +kernel | assumption) ?_ | with_reducible refine p_neT (by first | decide +kernel | assumption) (by first | decide +kernel | assumption) ?_ | with_reducible refine p_eqS (by first | decide +kernel | assumption) (by first | decide +kernel | assumption) ?_ | with_reducible refine p_neS (by first | decide +kernel | assumption) (by first | decide +kernel | assumption) ?_ | with_reducible refine p_isi (by with_unfolding_all rfl) (by decide) ?_ | with_reducible refine p_lmO (by first | assumption | exact sup_same) ?_ | with_reducible refine p_lmE (by first | assumption | exact sup_same) (by with_unfolding_all rfl) (by (first | exact True.intro | exact szl | (with_reducible assumption) | decide | (simp only [List.length_cons, List.length_nil]; first | exact szl | omega) | omega)) ?_ | with_reducible refine p_freeze (by with_unfolding_all rfl) (by first | assumption | exact sup_same) ?_ | with_reducible refine p_dispE (by assumption) (by with_unfolding_all rfl) ?_ | with_reducible refine p_getI (by with_unfolding_all rfl) ?_ | with_reducible refine p_getS (by with_unfolding_all rfl) (by with_unfolding_all rfl) (by first | with_unfolding_all rfl | with_unfolding_all assumption) ?_ | with_reducible refine p_getN (by with_unfolding_all rfl) (by with_unfolding_all rfl) (by first | with_unfolding_all rfl | with_unfolding_all assumption) ?_ | with_reducible refine p_r (by with_unfolding_all rfl) (by (first | exact True.intro | exact szl | (with_reducible assumption) | decide | (simp only [List.length_cons, List.length_nil]; first | exact szl | omega) | omega)) ?_ | with_reducible refine p_rc (by with_unfolding_all rfl) (by (first | exact True.intro | exact szl | (with_reducible assumption) | decide | (simp only [List.length_cons, List.length_nil]; first | exact szl | omega) | omega)) ?_ | with_reducible refine p_ixS (by first | assumption | exact sup_same) (by with_unfolding_all rfl) ?_ | with_reducible refine p_set (by first | assumption | exact sup_same) (by with_unfolding_all rfl) ?_ | with_reducible refine p_onE (by with_unfolding_all rfl) (by (first | exact True.intro | exact szl | (with_reducible assumption) | decide | (simp only [List.length_cons, List.length_nil]; first | exact szl | omega) | omega)) ?_ | with_reducible refine p_kgetS (by first | with_unfolding_all rfl | with_unfolding_all assumption) ?_ | with_reducible refine p_kinT (by first | with_unfolding_all rfl | with_unfolding_all assumption) ?_ | with_reducible refine p_kinF (by first | with_unfolding_all rfl | with_unfolding_all assumption) ?_ | with_reducible refine p_nkinT (by first | with_unfolding_all rfl | with_unfolding_all assumption) ?_ | with_reducible refine p_nkinF (by first | with_unfolding_all rfl | with_unfolding_all assumption) ?_ | with_reducible refine p_T (by with_unfolding_all rfl) ?_ | with_reducible refine p_F (by with_unfolding_all rfl) ?_ | with_reducible refine And.intro (a := List.length _ ≤ sizeLine) szl ?_ | with_reducible refine And.intro (a := List.length _ = _) (by with_unfolding_all rfl) ?_))
      have hn : ((n :: r).map D.int).length = (n :: r).length := by simp
      have h0 : 0 ≤ c.fmod ((n :: r).map D.int).length := fmod_lo (by simp)
      have h1 : c.fmod ((n :: r).map D.int).length < (n :: r).length := by
        have := fmod_hi (a := c) (m := ((n :: r).map D.int).length) (by simp)
        rw [hn] at this ⊢
        exact this
      obtain ⟨z, hz⟩ := atI_map h0 h1
      refine p_mod (by rw [hn, List.length_cons]; omega) ?_
      refine p_ixQ rfl hz ?_
      (repeat' (first | with_reducible refine p_seq ?_ | with_reducible refine p_next ?_ | with_reducible refine p_var (by with_unfolding_all rfl) ?_ | with_reducible refine p_c ?_ | with_reducible refine p_op ?_ | with_reducible refine p_cb ?_ | with_reducible refine p_call ?_ | with_reducible refine p_cons ?_ | with_reducible refine p_nil ?_ | with_reducible refine p_tup ?_ | with_reducible refine p_lst ?_ | with_reducible refine p_b ?_ | with_reducible refine p_qb ?_ | with_reducible refine p_and ?_ | with_reducible refine p_or ?_ | with_reducible refine p_not ?_ | with_reducible refine p_andV ?_ | with_reducible refine p_orV ?_ | with_reducible refine p_notV ?_ | with_reducible refine p_if ?_ | with_reducible refine p_ifS ?_ | with_reducible refine p_un ?_ | with_reducible refine p_neg ?_ | with_reducible refine p_ret ?_ | with_reducible refine p_retN ?_ | with_reducible refine p_drop ?_ | with_reducible refine p_asg' ?_ | with_reducible refine p_par ?_ | with_reducible refine p_setI ?_ | with_reducible refine p_sl ?_ | with_reducible refine p_noPart ?_ | with_reducible refine p_part ?_ | with_reducible refine p_partI ?_ | with_reducible refine p_kin ?_ | with_reducible refine p_kget ?_ | with_reducible refine p_lm ?_ | with_reducible refine p_for ?_ | with_reducible refine p_seqI ?_ | with_reducible refine p_seqL ?_ | with_reducible refine p_seqT ?_ | with_reducible refine p_rng1 ?_ | with_reducible refine p_rng1I (by unfold rng1; first | decide | (constructor <;> omega)) ?_ | with_reducible refine p_yes ?_ | with_reducible refine p_chain ?_ | with_reducible refine p_callK ?_ | with_reducible refine p_lc ?_ | with_reducible refine p_disp fun _ hp0 => ?_ | with_reducible refine p_get2 ?_ | with_reducible refine p_bindM (by with_unfolding_all rfl) ?_ | with_reducible refine p_mulI (by first | decide | omega) (by first | decide | omega) ?_ | with_reducible refine p_mod (by first | decide | omega | assumption) ?_ | with_reducible refine p_sub ?_ | with_reducible refine p_min ?_ | with_reducible refine p_max ?_ | with_reducible refine p_ix0 ?_ | with_reducible refine p_ix0L ?_ | with_reducible refine p_inT (by first | decide +kernel | exact ⟨rfl, rfl⟩ | (simp [flD]; done)) ?_ | with_reducible refine p_notInT (by first | decide +kernel | exact ⟨rfl, rfl⟩ | (simp [flD]; done)) ?_ | with_reducible refine p_fdiv (by first | assumption | decide) ?_ | with_reducible refine p_pow (by unfold CPow; decide) ?_ | with_reducible refine p_lt ?_ | with_reducible refine p_le ?_ | with_reducible refine p_gt ?_ | with_reducible refine p_ge ?_ | with_reducible refine p_eqI ?_ | with_reducible refine p_neI ?_ | with_reducible refine p_eqL (by first | decide +kernel | assumption) (by first | decide +kernel | assumption) ?_ | with_reducible refine p_neL (by first | decide +kernel | assumption) (by first | decide +kernel | assumption) ?_ | with_reducible refine p_eqT (by first | decide +kernel | assumption) (by first | decide +kernel | assumption) ?_ | with_reducible refine p_neT (by first | decide +kernel | assumption) (by first | decide +kernel | assumption) ?_ | with_reducible refine p_eqS (by first | decide +kernel | assumption) (by first | decide +kernel | assumption) ?_ | with_reducible refine p_neS (by first | decide +kernel | assumption) (by first | decide +kernel | assumption) ?_ | with_reducible refine p_isi (by with_unfolding_all rfl) (by decide) ?_ | with_reducible refine p_lmO (by first | assumption | exact sup_same) ?_ | with_reducible refine p_lmE (by first | assumption | exact sup_same) (by with_unfolding_all rfl) (by (first | exact True.intro | exact szl | (with_reducible assumption) | decide | (simp only [List.length_cons, List.length_nil]; first | exact szl | omega) | omega)) ?_ | with_reducible refine p_freeze (by with_unfolding_all rfl) (by first | assumption | exact sup_same) ?_ | with_reducible refine p_dispE (by assumption) (by with_unfolding_all rfl) ?_ | with_reducible refine p_getI (by with_unfolding_all rfl) ?_ | with_reducible refine p_getS (by with_unfolding_all rfl) (by with_unfolding_all rfl) (by first | with_unfolding_all rfl | with_unfolding_all assumption) ?_ | with_reducible refine p_getN (by with_unfolding_all rfl) (by with_unfolding_all rfl) (by first | with_unfolding_all rfl | with_unfolding_all assumption) ?_ | with_reducible refine p_r (by with_unfolding_all rfl) (by (first | exact True.intro | exact szl | (with_reducible assumption) | decide | (simp only [List.length_cons, List.length_nil]; first | exact szl | omega) | omega)) ?_ | with_reducible refine p_rc (by with_unfolding_all rfl) (by (first | exact True.intro | exact szl | (with_reducible assumption) | decide | (simp only [List.length_cons, List.length_nil]; first | exact szl | omega) | omega)) ?_ | with_reducible refine p_ixS (by first | assumption | exact sup_same) (by with_unfolding_all rfl) ?_ | with_reducible refine p_set (by first | assumption | exact sup_same) (by with_unfolding_all rfl) ?_ | with_reducible refine p_onE (by with_unfolding_all rfl) (by (first | exact True.intro | exact szl | (with_reducible assumption) | decide | (simp only [List.length_cons, List.length_nil]; first | exact szl | omega) | omega)) ?_ | with_reducible refine p_kgetS (by first | with_unfolding_all rfl | with_unfolding_all assumption) ?_ | with_reducible refine p_kinT (by first | with_unfolding_all rfl | with_unfolding_all assumption) ?_ | with_reducible refine p_kinF (by first | with_unfolding_all rfl | with_unfolding_all assumption) ?_ | with_reducible refine p_nkinT (by first | with_unfolding_all rfl | with_unfolding_all assumption) ?_ | with_reducible refine p_nkinF (by first | with_unfolding_all rfl | with_unfolding_all assumption) ?_ | with_reducible refine p_T (by with_unfolding_all rfl) ?_ | with_reducible refine p_F (by with_unfolding_all rfl) ?_ | with_reducible refine And.intro (a := List.length _ ≤ sizeLine) szl ?_ | with_reducible refine And.intro (a := List.length _ = _) (by with_unfolding_all rfl) ?_))
      exact spin_t hns hS hm hm2 ht fun k a' S' h0 h1 h2 h3 => q k a' _ S' h0 h1 h2 (hO.trans h3)
abbrev spinN : List Str := ["_law_yarn_here", "_law_many", "_law_turn", "_law_found", "_law_at", "_law_figure", "_law_mixed"]
theorem spin_y {ns : List Int} {y : Addr} {m : Int} {B : Nat} {S0 S : Sto} {Q : QD} (hns : ns.length ≤ 63) (h : Yn ns y B S) (o : Only y S0 S) (hm : 0 < m ∧ m < 1073741824) (hB : B ≤ 1000000000)
    (q : ∀ k S', 0 ≤ k → k < m → Yn ns y (B + 1) S' → Only y S0 S' → Q (.int k) S') : mkSp 2 spinN spinR [.ref y, .int m] S Q := by
  obtain ⟨a, c, t, h1, h2⟩ := h
  refine mkSp_of rfl (spin_p hns h1 hm.1 hm.2 (Nat.le_trans h2 hB) fun k a' c' S' k0 k1 hS hO => q k S' k0 k1 ⟨a', c', t + 1, hS, by omega⟩ (o.trans hO))
def yarnR : TSD := (tdRet (tdLstR (tdCons (tdSl (tdVar 0) tdNoPart (tdPart (tdC (.int 63)))) (tdCons (tdC (.int 0)) (tdCons (tdC (.int 0)) (tdCons (tdC (.int 0)) tdNil))))))
abbrev yarnN : List Str := ["_law_script"]
theorem yarn_y {ns : List Int} {S : Sto} {Q : QD} (hns : ns.length ≤ 63) (q : ∀ y S', S y = none → Yn ns y 0 S' → Only y S S' → Q (.ref y) S') : mkSp 1 yarnN yarnR [.scr (ns.map D.int)] S Q := by
  refine mkSp_of rfl ?_
  show yarnR ⟨_, _, _, _⟩ [some (.scr (ns.map D.int))] S
  unfold yarnR
  (repeat' (first | with_reducible refine p_seq ?_ | with_reducible refine p_next ?_ | with_reducible refine p_var (by with_unfolding_all rfl) ?_ | with_reducible refine p_c ?_ | with_reducible refine p_op ?_ | with_reducible refine p_cb ?_ | with_reducible refine p_call ?_ | with_reducible refine p_cons ?_ | with_reducible refine p_nil ?_ | with_reducible refine p_tup ?_ | with_reducible refine p_lst ?_ | with_reducible refine p_b ?_ | with_reducible refine p_qb ?_ | with_reducible refine p_and ?_ | with_reducible refine p_or ?_ | with_reducible refine p_not ?_ | with_reducible refine p_andV ?_ | with_reducible refine p_orV ?_ | with_reducible refine p_notV ?_ | with_reducible refine p_if ?_ | with_reducible refine p_ifS ?_ | with_reducible refine p_un ?_ | with_reducible refine p_neg ?_ | with_reducible refine p_ret ?_ | with_reducible refine p_retN ?_ | with_reducible refine p_drop ?_ | with_reducible refine p_asg' ?_ | with_reducible refine p_par ?_ | with_reducible refine p_setI ?_ | with_reducible refine p_sl ?_ | with_reducible refine p_noPart ?_ | with_reducible refine p_part ?_ | with_reducible refine p_partI ?_ | with_reducible refine p_kin ?_ | with_reducible refine p_kget ?_ | with_reducible refine p_lm ?_ | with_reducible refine p_for ?_ | with_reducible refine p_seqI ?_ | with_reducible refine p_seqL ?_ | with_reducible refine p_seqT ?_ | with_reducible refine p_rng1 ?_ | with_reducible refine p_rng1I (by unfold rng1; first | decide | (constructor <;> omega)) ?_ | with_reducible refine p_yes ?_ | with_reducible refine p_chain ?_ | with_reducible refine p_callK ?_ | with_reducible refine p_lc ?_ | with_reducible refine p_disp fun _ hp0 => ?_ | with_reducible refine p_get2 ?_ | with_reducible refine p_bindM (by with_unfolding_all rfl) ?_ | with_reducible refine p_mulI (by first | decide | omega) (by first | decide | omega) ?_ | with_reducible refine p_mod (by first | decide | omega | assumption) ?_ | with_reducible refine p_sub ?_ | with_reducible refine p_min ?_ | with_reducible refine p_max ?_ | with_reducible refine p_ix0 ?_ | with_reducible refine p_ix0L ?_ | with_reducible refine p_inT (by first | decide +kernel | exact ⟨rfl, rfl⟩ | (simp [flD]; done)) ?_ | with_reducible refine p_notInT (by first | decide +kernel | exact ⟨rfl, rfl⟩ | (simp [flD]; done)) ?_ | with_reducible refine p_fdiv (by first | assumption | decide) ?_ | with_reducible refine p_pow (by unfold CPow; decide) ?_ | with_reducible refine p_lt ?_ | with_reducible refine p_le ?_ | with_reducible refine p_gt ?_ | with_reducible refine p_ge ?_ | with_reducible refine p_eqI ?_ | with_reducible refine p_neI ?_ | with_reducible refine p_eqL (by first | decide +kernel | assumption) (by first | decide +kernel | assumption) ?_ | with_reducible refine p_neL (by first | decide +kernel | assumption) (by first | decide +kernel | assumption) ?_ | with_reducible refine p_eqT (by first | decide +kernel | assumption) (by first | decide +kernel | assumption) ?_ | with_reducible refine p_neT (by first | decide +kernel | assumption) (by first | decide +kernel | assumption) ?_ | with_reducible refine p_eqS (by first | decide +kernel | assumption) (by first | decide +kernel | assumption) ?_ | with_reducible refine p_neS (by first | decide +kernel | assumption) (by first | decide +kernel | assumption) ?_ | with_reducible refine p_isi (by with_unfolding_all rfl) (by decide) ?_ | with_reducible refine p_lmO (by first | assumption | exact sup_same) ?_ | with_reducible refine p_lmE (by first | assumption | exact sup_same) (by with_unfolding_all rfl) (by (first | exact True.intro | exact szl | (with_reducible assumption) | decide | (simp only [List.length_cons, List.length_nil]; first | exact szl | omega) | omega)) ?_ | with_reducible refine p_freeze (by with_unfolding_all rfl) (by first | assumption | exact sup_same) ?_ | with_reducible refine p_dispE (by assumption) (by with_unfolding_all rfl) ?_ | with_reducible refine p_getI (by with_unfolding_all rfl) ?_ | with_reducible refine p_getS (by with_unfolding_all rfl) (by with_unfolding_all rfl) (by first | with_unfolding_all rfl | with_unfolding_all assumption) ?_ | with_reducible refine p_getN (by with_unfolding_all rfl) (by with_unfolding_all rfl) (by first | with_unfolding_all rfl | with_unfolding_all assumption) ?_ | with_reducible refine p_r (by with_unfolding_all rfl) (by (first | exact True.intro | exact szl | (with_reducible assumption) | decide | (simp only [List.length_cons, List.length_nil]; first | exact szl | omega) | omega)) ?_ | with_reducible refine p_rc (by with_unfolding_all rfl) (by (first | exact True.intro | exact szl | (with_reducible assumption) | decide | (simp only [List.length_cons, List.length_nil]; first | exact szl | omega) | omega)) ?_ | with_reducible refine p_ixS (by first | assumption | exact sup_same) (by with_unfolding_all rfl) ?_ | with_reducible refine p_set (by first | assumption | exact sup_same) (by with_unfolding_all rfl) ?_ | with_reducible refine p_onE (by with_unfolding_all rfl) (by (first | exact True.intro | exact szl | (with_reducible assumption) | decide | (simp only [List.length_cons, List.length_nil]; first | exact szl | omega) | omega)) ?_ | with_reducible refine p_kgetS (by first | with_unfolding_all rfl | with_unfolding_all assumption) ?_ | with_reducible refine p_kinT (by first | with_unfolding_all rfl | with_unfolding_all assumption) ?_ | with_reducible refine p_kinF (by first | with_unfolding_all rfl | with_unfolding_all assumption) ?_ | with_reducible refine p_nkinT (by first | with_unfolding_all rfl | with_unfolding_all assumption) ?_ | with_reducible refine p_nkinF (by first | with_unfolding_all rfl | with_unfolding_all assumption) ?_ | with_reducible refine p_T (by with_unfolding_all rfl) ?_ | with_reducible refine p_F (by with_unfolding_all rfl) ?_ | with_reducible refine And.intro (a := List.length _ ≤ sizeLine) szl ?_ | with_reducible refine And.intro (a := List.length _ = _) (by with_unfolding_all rfl) ?_))
  refine p_lstR ?_
  (repeat' (first | with_reducible refine p_seq ?_ | with_reducible refine p_next ?_ | with_reducible refine p_var (by with_unfolding_all rfl) ?_ | with_reducible refine p_c ?_ | with_reducible refine p_op ?_ | with_reducible refine p_cb ?_ | with_reducible refine p_call ?_ | with_reducible refine p_cons ?_ | with_reducible refine p_nil ?_ | with_reducible refine p_tup ?_ | with_reducible refine p_lst ?_ | with_reducible refine p_b ?_ | with_reducible refine p_qb ?_ | with_reducible refine p_and ?_ | with_reducible refine p_or ?_ | with_reducible refine p_not ?_ | with_reducible refine p_andV ?_ | with_reducible refine p_orV ?_ | with_reducible refine p_notV ?_ | with_reducible refine p_if ?_ | with_reducible refine p_ifS ?_ | with_reducible refine p_un ?_ | with_reducible refine p_neg ?_ | with_reducible refine p_ret ?_ | with_reducible refine p_retN ?_ | with_reducible refine p_drop ?_ | with_reducible refine p_asg' ?_ | with_reducible refine p_par ?_ | with_reducible refine p_setI ?_ | with_reducible refine p_sl ?_ | with_reducible refine p_noPart ?_ | with_reducible refine p_part ?_ | with_reducible refine p_partI ?_ | with_reducible refine p_kin ?_ | with_reducible refine p_kget ?_ | with_reducible refine p_lm ?_ | with_reducible refine p_for ?_ | with_reducible refine p_seqI ?_ | with_reducible refine p_seqL ?_ | with_reducible refine p_seqT ?_ | with_reducible refine p_rng1 ?_ | with_reducible refine p_rng1I (by unfold rng1; first | decide | (constructor <;> omega)) ?_ | with_reducible refine p_yes ?_ | with_reducible refine p_chain ?_ | with_reducible refine p_callK ?_ | with_reducible refine p_lc ?_ | with_reducible refine p_disp fun _ hp0 => ?_ | with_reducible refine p_get2 ?_ | with_reducible refine p_bindM (by with_unfolding_all rfl) ?_ | with_reducible refine p_mulI (by first | decide | omega) (by first | decide | omega) ?_ | with_reducible refine p_mod (by first | decide | omega | assumption) ?_ | with_reducible refine p_sub ?_ | with_reducible refine p_min ?_ | with_reducible refine p_max ?_ | with_reducible refine p_ix0 ?_ | with_reducible refine p_ix0L ?_ | with_reducible refine p_inT (by first | decide +kernel | exact ⟨rfl, rfl⟩ | (simp [flD]; done)) ?_ | with_reducible refine p_notInT (by first | decide +kernel | exact ⟨rfl, rfl⟩ | (simp [flD]; done)) ?_ | with_reducible refine p_fdiv (by first | assumption | decide) ?_ | with_reducible refine p_pow (by unfold CPow; decide) ?_ | with_reducible refine p_lt ?_ | with_reducible refine p_le ?_ | with_reducible refine p_gt ?_ | with_reducible refine p_ge ?_ | with_reducible refine p_eqI ?_ | with_reducible refine p_neI ?_ | with_reducible refine p_eqL (by first | decide +kernel | assumption) (by first | decide +kernel | assumption) ?_ | with_reducible refine p_neL (by first | decide +kernel | assumption) (by first | decide +kernel | assumption) ?_ | with_reducible refine p_eqT (by first | decide +kernel | assumption) (by first | decide +kernel | assumption) ?_ | with_reducible refine p_neT (by first | decide +kernel | assumption) (by first | decide +kernel | assumption) ?_ | with_reducible refine p_eqS (by first | decide +kernel | assumption) (by first | decide +kernel | assumption) ?_ | with_reducible refine p_neS (by first | decide +kernel | assumption) (by first | decide +kernel | assumption) ?_ | with_reducible refine p_isi (by with_unfolding_all rfl) (by decide) ?_ | with_reducible refine p_lmO (by first | assumption | exact sup_same) ?_ | with_reducible refine p_lmE (by first | assumption | exact sup_same) (by with_unfolding_all rfl) (by (first | exact True.intro | exact szl | (with_reducible assumption) | decide | (simp only [List.length_cons, List.length_nil]; first | exact szl | omega) | omega)) ?_ | with_reducible refine p_freeze (by with_unfolding_all rfl) (by first | assumption | exact sup_same) ?_ | with_reducible refine p_dispE (by assumption) (by with_unfolding_all rfl) ?_ | with_reducible refine p_getI (by with_unfolding_all rfl) ?_ | with_reducible refine p_getS (by with_unfolding_all rfl) (by with_unfolding_all rfl) (by first | with_unfolding_all rfl | with_unfolding_all assumption) ?_ | with_reducible refine p_getN (by with_unfolding_all rfl) (by with_unfolding_all rfl) (by first | with_unfolding_all rfl | with_unfolding_all assumption) ?_ | with_reducible refine p_r (by with_unfolding_all rfl) (by (first | exact True.intro | exact szl | (with_reducible assumption) | decide | (simp only [List.length_cons, List.length_nil]; first | exact szl | omega) | omega)) ?_ | with_reducible refine p_rc (by with_unfolding_all rfl) (by (first | exact True.intro | exact szl | (with_reducible assumption) | decide | (simp only [List.length_cons, List.length_nil]; first | exact szl | omega) | omega)) ?_ | with_reducible refine p_ixS (by first | assumption | exact sup_same) (by with_unfolding_all rfl) ?_ | with_reducible refine p_set (by first | assumption | exact sup_same) (by with_unfolding_all rfl) ?_ | with_reducible refine p_onE (by with_unfolding_all rfl) (by (first | exact True.intro | exact szl | (with_reducible assumption) | decide | (simp only [List.length_cons, List.length_nil]; first | exact szl | omega) | omega)) ?_ | with_reducible refine p_kgetS (by first | with_unfolding_all rfl | with_unfolding_all assumption) ?_ | with_reducible refine p_kinT (by first | with_unfolding_all rfl | with_unfolding_all assumption) ?_ | with_reducible refine p_kinF (by first | with_unfolding_all rfl | with_unfolding_all assumption) ?_ | with_reducible refine p_nkinT (by first | with_unfolding_all rfl | with_unfolding_all assumption) ?_ | with_reducible refine p_nkinF (by first | with_unfolding_all rfl | with_unfolding_all assumption) ?_ | with_reducible refine p_T (by with_unfolding_all rfl) ?_ | with_reducible refine p_F (by with_unfolding_all rfl) ?_ | with_reducible refine And.intro (a := List.length _ ≤ sizeLine) szl ?_ | with_reducible refine And.intro (a := List.length _ = _) (by with_unfolding_all rfl) ?_))
  have e : cutD (ns.map D.int) none (some 63) = ns.map D.int := by
    refine cut_whole ⟨rfl, ?_⟩
    show HT.sIx _ _ (some ((63 : Nat) : Int)) = _
    rw [HT.sIx_nat, List.length_map]
    omega
  rw [e]
  exact fun y hy => q y _ hy ⟨0, 0, 0, sup_same, Nat.le_refl _⟩ only_sup
end PL

namespace PL
open PySem PySem.Spec PyProof.Rows L2

/-! ### what repr shows is a text of signs -/
def Sg (x : Str) : Prop := ∀ c ∈ x.cps.toList, c < 0x110000
theorem Sg.ok {x : Str} (h : Sg x) : PyData.strOk x = true := by
  unfold PyData.strOk
  rw [← Array.all_toList, List.all_eq_true]
  exact fun c hc => decide_eq_true (h c hc)
theorem Sg.of {x : Str} (h : PyData.strOk x = true) : Sg x := by
  unfold PyData.strOk at h
  rw [← Array.all_toList, List.all_eq_true] at h
  exact fun c hc => of_decide_eq_true (h c hc)
theorem Sg.app {x y : Str} (h : Sg x) (g : Sg y) : Sg (x ++ y) := fun c hc => (mem_cps_append.mp hc).elim (h c) (g c)
theorem char_lt (c : Char) : c.toNat < 0x110000 := by
  have := c.valid
  unfold Char.toNat UInt32.isValidChar Nat.isValidChar at *
  omega
theorem reprChar_sg {q c : Nat} (hc : c < 0x110000) : ∀ z ∈ Builtin.Str.reprChar q c, z < 0x110000 := by
  have hx (w : Nat) : ∀ z ∈ List.replicate (w - ((Nat.toDigits 16 c).map Char.toNat).length) 48 ++ (Nat.toDigits 16 c).map Char.toNat, z < 0x110000 := by
    intro z hz
    rcases List.mem_append.mp hz with h | h
    · have := (List.mem_replicate.mp h).2; omega
    · obtain ⟨ch, _, rfl⟩ := List.mem_map.mp h
      exact char_lt ch
  intro z hz
  unfold Builtin.Str.reprChar at hz
  dsimp only at hz
  repeat' split at hz
  all_goals first
    | (simp only [List.mem_cons, List.not_mem_nil, or_false] at hz; omega)
    | (rcases List.mem_append.mp hz with h | h
       · simp only [List.mem_cons, List.not_mem_nil, or_false] at h; omega
       · exact hx _ z h)
theorem foldl_sg {q : Nat} : ∀ (l : List Nat) (acc : Array Nat), (∀ c ∈ l, c < 0x110000) → (∀ c ∈ acc.toList, c < 0x110000) → ∀ c ∈ (l.foldl (fun out c => out ++ (Builtin.Str.reprChar q c).toArray) acc).toList, c < 0x110000
  | [], acc, _, h => h
  | c :: r, acc, hl, h => by
    rw [List.foldl_cons]
    refine foldl_sg r _ (fun d hd => hl d (List.mem_cons_of_mem _ hd)) fun z hz => ?_
    rw [Array.toList_append] at hz
    rcases List.mem_append.mp hz with hz | hz
    · exact h z hz
    · exact reprChar_sg (hl c (by simp)) z hz
theorem reprText_sg {x : Str} (h : Sg x) : Sg (reprText x) := by
  unfold Sg reprText
  have hq : reprQuote x < 0x110000 := by unfold reprQuote; split <;> decide
  show ∀ c ∈ ((x.cps.foldl (fun out c => out ++ (Builtin.Str.reprChar (reprQuote x) c).toArray) #[reprQuote x]).push (reprQuote x)).toList, c < 0x110000
  rw [Array.toList_push, ← Array.foldl_toList]
  intro c hc
  rcases List.mem_append.mp hc with hc | hc
  · exact foldl_sg _ _ h (fun c hc => by simp at hc; omega) c hc
  · simp at hc; omega
theorem join_sg {s : Str} (hs : Sg s) : ∀ ts : List Str, (∀ t ∈ ts, Sg t) → Sg (Str.join s ts)
  | [], _ => fun c hc => by
    have : (Str.join s []).cps.toList = [] := rfl
    rw [this] at hc; cases hc
  | [x], h => h x (by simp)
  | x :: y :: r, h => ((h x (by simp)).app hs).app (join_sg hs (y :: r) fun t ht => h t (List.mem_cons_of_mem _ ht))
theorem sgs {x : Str} (h : PyData.strOk x = true := by decide +kernel) : Sg x := .of h
mutual
theorem shown_sg : ∀ d : PyData, d.canLay0 = true → Sg d.shown
  | .none, _ => by unfold PyData.shown; exact sgs
  | .bool b, _ => by unfold PyData.shown; cases b <;> exact sgs
  | .int i, _ => by
    unfold PyData.shown
    intro c hc
    have hc : c ∈ (Str.ofString (toString i)).cps.toList := hc
    rw [Str.ofString_eq_toList] at hc
    obtain ⟨ch, _, rfl⟩ := List.mem_map.mp hc
    exact char_lt ch
  | .str x, h => by
    unfold PyData.shown
    exact reprText_sg (.of (by simpa [PyData.canLay0] using h))
  | .list xs, h => by
    unfold PyData.shown
    rw [listText_eq_join]
    exact (Sg.app sgs (join_sg sgs _ (shownAll_sg xs (by simpa [PyData.canLay0] using h)))).app sgs
  | .tuple xs, h => by
    unfold PyData.shown tupleText
    refine (Sg.app sgs (join_sg sgs _ (shownAll_sg xs (by simpa [PyData.canLay0] using h)))).app ?_
    split <;> exact sgs
  | .dict _, h => by simp [PyData.canLay0] at h
theorem shownAll_sg : ∀ xs : List PyData, PyData.canLayAll0 xs = true → ∀ t ∈ PyData.shownAll xs, Sg t
  | [], _, t, ht => by unfold PyData.shownAll at ht; cases ht
  | x :: xs, h, t, ht => by
    have h' : x.canLay0 = true ∧ PyData.canLayAll0 xs = true := by simpa [PyData.canLayAll0] using h
    unfold PyData.shownAll at ht
    rcases List.mem_cons.mp ht with rfl | ht
    · exact shown_sg x h'.1
    · exact shownAll_sg xs h'.2 t ht
end
theorem Okd.shok {d : D} {k w : Nat} (h : Okd d k w) : okD (.str (PyData.shown (pyd d))) = true := by
  have := (shown_sg _ h.lay).ok
  unfold okD SeqAt.shaped isDt pyd PyData.canLay0 PyData.depth
  rw [this]; rfl
theorem getL_ref {a : Addr} {S S' : Sto} (h : S' a = S a) : getL S' (.ref a) = getL S (.ref a) := by
  simp only [getL, h]
theorem getL_only {y : Addr} {S S' : Sto} {L : D} (h : Only y S S') (n : L ≠ .ref y) : getL S' L = getL S L := by
  cases L <;> try rfl
  rename_i a
  exact getL_ref (h a fun e => n (by rw [e]))
theorem getL_sup {q : Addr} {S : Sto} {xs : List D} : getL (sup S q (.lst xs)) (.ref q) = some xs := by
  simp only [getL, sup_same]
end PL

namespace PL
open PySem PySem.Spec PyProof.Rows L2
section
variable {X : Cx}
/-! ### min and max of two -/
def two (g : Int → Int → Int) : Sto → List D → PR := fun S ds => match ds with
  | [.int i, .int j] => some (True, .int (g i j))
  | _ => none
abbrev minD := two fun i j => if j < i then j else i
abbrev maxD := two fun i j => if j > i then j else i
theorem dcal_two {f : Value} {g : Int → Int → Int} (h : CallR X f (fun xs H Q => ∃ i j, xs = [.int i, .int j] ∧ Q (.int (g i j)) H)) : DCal X f (rdC (two g)) := dcal_P fun pins s σ H vs us Q S ds c d I rv hs r e hC q => by
  unfold two at e
  split at e
  · cases e
    obtain ⟨v, w, rfl, r1, r2⟩ := r.two_inv
    cases r1; cases r2
    exact h pins s σ H _ us Q I rv ⟨_, _, rfl, q _ _ (.int _) hs Ext.refl⟩
  · cases e
theorem dcal_min (hc : X.calm = true) : DCal X (.builtin "min") (rdC minD) := dcal_two (call_min2 hc)
theorem dcal_max (hc : X.calm = true) : DCal X (.builtin "max") (rdC maxD) := dcal_two (call_max2 hc)
theorem p_min {i j : Int} {S : Sto} {Q : QD} (q : Q (.int (if j < i then j else i)) S) : rdC minD [.int i, .int j] S Q := p_rc (cc := True) (d := .int (if j < i then j else i)) rfl trivial q
theorem p_max {i j : Int} {S : Sto} {Q : QD} (q : Q (.int (if j > i then j else i)) S) : rdC maxD [.int i, .int j] S Q := p_rc (cc := True) (d := .int (if j > i then j else i)) rfl trivial q
theorem p_chain {rd rd' : D → D → Sto → QD → Prop} {ta tb tc : TED} {env : Env'} {S : Sto} {Q : QD} (q : ta env S fun x S1 => tb env S1 fun y S2 => rd x y S2 (qb fun k S3 => if k = true then tc env S3 fun z S4 => rd' y z S4 Q else Q (.bl false) S3)) : tdChain rd rd' ta tb tc env S Q := q
end
end PL

namespace PL
open PySem PySem.Spec PyProof.Rows L2

/-! ### what is never reached needs no walk -/
def tdDead : TSD := fun _ _ _ => False
def tdDeadE : TED := fun _ _ _ => False
def spDead : SpD := fun _ _ _ => False
theorem dss_dead {X : Cx} {sts : List Stmt} : DSs X sts tdDead where
  mono := fun _ _ _ _ _ q => q.elim
  run := ⟨fun pins s σ H D I ⟨env, S, _, _, De, _, q⟩ => q.elim⟩
theorem ds_dead {X : Cx} {st : Stmt} : DS X st tdDead where
  mono := fun _ _ _ _ _ q => q.elim
  run := ⟨fun pins s σ H D I ⟨env, S, _, _, De, _, q⟩ => q.elim⟩
theorem de_dead {X : Cx} {e : Expr} : DE X e tdDeadE where
  mono := fun _ _ _ _ _ q => q.elim
  run := ⟨fun pins s σ H Q I ⟨env, S, _, _, q⟩ => q.elim⟩
section
variable {P : Program} {w : World} {K : PySem.W.Frag} {mg : Str → Option Value} {base : Heap}
theorem dfn_dead {k : Nat} {f : Addr} {fd : FuncData} {x qual : Str} {st : Stmt} {N ps : List Str} (F : Fun K x qual st f fd) (Sc : FnScope N ps (defScope st)) : DFn P w K mg base (k + 1) f fd ps spDead :=
  dfn_of F Sc (fun _ _ _ _ _ q => q.elim) (fun _ _ _ q => q.elim) fun cdv A outer s H _ _ => ⟨tdDead, dss_dead, fun _ _ _ q => q.elim⟩
end
/-- a call with no values from ahead -/
theorem p_call0 {sp : SpD} {t : TAD} {env : Env'} {S : Sto} {Q : QD} (q : t env S fun ds S1 => sp ds S1 Q) : tdCall sp [] t env S Q := by
  unfold tdCall
  have : (fun (ds : List D) S1 => sp (ds ++ []) S1 Q) = fun ds S1 => sp ds S1 Q := by
    funext ds S1
    rw [List.append_nil]
  rw [this]
  exact q
end PL

namespace PL
open PySem PySem.Spec PyProof.Rows L2

/-! ## the functional layer: what a pure def computes, as a plain function -/
/-- a slot: a value, or an object that this def alone holds -/
inductive SV where | val (d : D) | own (o : MO)
abbrev FEnv := List (Option SV)
def moD : MO → Option D
  | .lst xs => some (.lst xs)
  | .dct ks vs => some (.dct ks vs)
  | .dtt ks vs => some (.dtt ks vs)
  | .ins _ _ => none
/-- the frame as it is and as it is told -/
structure Rel (S0 : Sto) (φ : FEnv) (env : Env') (S : Sto) : Prop where
  len : env.length = φ.length
  base : ∀ a o, S0 a = some o → S a = some o
  val : ∀ (i : Nat) (d : D), φ[i]? = some (some (SV.val d)) → env[i]? = some (some d)
  own : ∀ (i : Nat) (o : MO), φ[i]? = some (some (SV.own o)) → ∃ a, env[i]? = some (some (D.ref a)) ∧ S a = some o ∧ S0 a = none
  inj : ∀ (i j : Nat) (o o' : MO) (a : Addr), φ[i]? = some (some (SV.own o)) → φ[j]? = some (some (SV.own o')) → env[i]? = some (some (D.ref a)) → env[j]? = some (some (D.ref a)) → i = j
/-- what is lent: the value, or the address of what has it -/
def Bor (S : Sto) (x' x : D) : Prop := x' = x ∨ ∃ a o, x' = D.ref a ∧ S a = some o ∧ moD o = some x
theorem Bor.rfl {S : Sto} {x : D} : Bor S x x := .inl (Eq.refl x)
inductive BorL (S : Sto) : List D → List D → Prop where
  | nil : BorL S [] []
  | cons {x' x : D} {r' r : List D} (h : Bor S x' x) (t : BorL S r' r) : BorL S (x' :: r') (x :: r)
theorem BorL.refl {S : Sto} : ∀ {l : List D}, BorL S l l
  | [] => .nil
  | _ :: _ => .cons .rfl BorL.refl
theorem BorL.len {S : Sto} : ∀ {l' l : List D}, BorL S l' l → l'.length = l.length
  | _, _, .nil => rfl
  | _, _, .cons _ t => congrArg (· + 1) t.len

abbrev FE := FEnv → Option D
abbrev FA := FEnv → Option (List D)
abbrev FT := FEnv → Option Bool
structure PuE (t : TED) (f : FE) : Prop where
  go : ∀ {S0 : Sto} {φ : FEnv} {env : Env'} {S : Sto} {Q : QD} {d : D}, Rel S0 φ env S → f φ = some d → Q d S → t env S Q
structure PuB (t : TED) (f : FE) : Prop where
  go : ∀ {S0 : Sto} {φ : FEnv} {env : Env'} {S : Sto} {Q : QD} {d : D}, Rel S0 φ env S → f φ = some d → (∀ d', Bor S d' d → Q d' S) → t env S Q
structure PuT (t : TTD) (f : FT) : Prop where
  go : ∀ {S0 : Sto} {φ : FEnv} {env : Env'} {S : Sto} {Q : Bool → Sto → Prop} {b : Bool}, Rel S0 φ env S → f φ = some b → Q b S → t env S Q
structure PuA (t : TAD) (f : FA) : Prop where
  go : ∀ {S0 : Sto} {φ : FEnv} {env : Env'} {S : Sto} {Q : List D → Sto → Prop} {d : List D}, Rel S0 φ env S → f φ = some d → Q d S → t env S Q
structure PuAB (t : TAD) (f : FA) : Prop where
  go : ∀ {S0 : Sto} {φ : FEnv} {env : Env'} {S : Sto} {Q : List D → Sto → Prop} {d : List D}, Rel S0 φ env S → f φ = some d → (∀ d', BorL S d' d → Q d' S) → t env S Q
structure PuO (t : TOD) (f : FEnv → Option (Option Int)) : Prop where
  go : ∀ {S0 : Sto} {φ : FEnv} {env : Env'} {S : Sto} {Q : Option Int → Sto → Prop} {d : Option Int}, Rel S0 φ env S → f φ = some d → Q d S → t env S Q
structure PuI (t : TID) (f : FA) : Prop where
  go : ∀ {S0 : Sto} {φ : FEnv} {env : Env'} {S : Sto} {Q : List D → Sto → Prop} {d : List D}, Rel S0 φ env S → f φ = some d → Q d S → t env S Q
/-- what a def computes -/
structure Pure (sp : SpD) (fn : List D → Option D) : Prop where
  go : ∀ {ds : List D} {S : Sto} {Q : QD} {d : D}, fn ds = some d → Q d S → sp ds S Q

theorem obind {α β : Type} {o : Option α} {f : α → Option β} {b : β} (h : o.bind f = some b) : ∃ a, o = some a ∧ f a = some b := Option.bind_eq_some_iff.mp h
section
variable {t ta tb te tf to : TED} {fa fb fc : FE} {tc tu : TTD} {gc gu : FT} {tA tK : TAD} {FA' FK : FA}
theorem PuE.b (h : PuE t fa) : PuB t fa := .mk fun r e q => h.go r e (q _ .rfl)
theorem PuA.b (h : PuA tA FA') : PuAB tA FA' := .mk fun r e q => h.go r e (q _ BorL.refl)
/-! ### names, constants -/
def fVar (i : Nat) : FE := fun φ => match φ[i]? with
  | some (some (.val d)) => some d
  | _ => none
def fVarB (i : Nat) : FE := fun φ => match φ[i]? with
  | some (some (.val d)) => some d
  | some (some (.own o)) => moD o
  | _ => none
def fC (d : D) : FE := fun _ => some d
theorem pu_var {i : Nat} : PuE (tdVar i) (fVar i) := .mk fun {S0 φ env S Q d} r e q => by
  unfold fVar at e
  split at e
  · cases e; rename_i h; exact p_var (r.val _ _ h) q
  · cases e
theorem pu_varB {i : Nat} : PuB (tdVar i) (fVarB i) := .mk fun {S0 φ env S Q d} r e q => by
  unfold fVarB at e
  split at e
  · cases e; rename_i h; exact p_var (r.val _ _ h) (q _ .rfl)
  · rename_i o h
    obtain ⟨a, h1, h2, _⟩ := r.own _ _ h
    exact p_var h1 (q _ (.inr ⟨a, o, rfl, h2, e⟩))
  · cases e
theorem pu_c {d : D} : PuE (tdC d) (fC d) := .mk fun r e q => by cases e; exact q
/-! ### operators -/
def fOp (g : D → D → Option D) (fa fb : FE) : FE := fun φ => (fa φ).bind fun x => (fb φ).bind fun y => g x y
def RespB (g : Sto → D → D → PR) (gf : D → D → Option D) : Prop := ∀ {S : Sto} {x' x y' y r : D}, Bor S x' x → Bor S y' y → gf x y = some r → ∃ c, g S x' y' = some (c, r) ∧ c
theorem pu_op {g : Sto → D → D → PR} {gf : D → D → Option D} (hr : RespB g gf) (ha : PuB ta fa) (hb : PuB tb fb) : PuE (tdOp (rdP g) ta tb) (fOp gf fa fb) := .mk fun {S0 φ env S Q d} r e q => by
  obtain ⟨x, e1, e⟩ := obind e
  obtain ⟨y, e2, e⟩ := obind e
  refine p_op (ha.go r e1 fun x' hx => hb.go r e2 fun y' hy => ?_)
  obtain ⟨c, e3, hc⟩ := hr hx hy e
  exact p_r e3 hc q
theorem Bor.int {S : Sto} {x' : D} {i : Int} (h : Bor S x' (.int i)) : x' = .int i := by
  rcases h with h | ⟨a, o, _, _, h⟩
  · exact h
  · cases o <;> cases h
theorem Bor.str {S : Sto} {x' : D} {i : Str} (h : Bor S x' (.str i)) : x' = .str i := by
  rcases h with h | ⟨a, o, _, _, h⟩
  · exact h
  · cases o <;> cases h
theorem Bor.bl {S : Sto} {x' : D} {i : Bool} (h : Bor S x' (.bl i)) : x' = .bl i := by
  rcases h with h | ⟨a, o, _, _, h⟩
  · exact h
  · cases o <;> cases h
theorem Bor.non {S : Sto} {x' : D} (h : Bor S x' .non) : x' = .non := by
  rcases h with h | ⟨a, o, _, _, h⟩
  · exact h
  · cases o <;> cases h
theorem Bor.ty {S : Sto} {x' : D} {n : String} (h : Bor S x' (.ty n)) : x' = .ty n := by
  rcases h with h | ⟨a, o, _, _, h⟩
  · exact h
  · cases o <;> cases h
theorem Bor.tup {S : Sto} {x' : D} {xs : List D} (h : Bor S x' (.tup xs)) : x' = .tup xs := by
  rcases h with h | ⟨a, o, _, _, h⟩
  · exact h
  · cases o <;> cases h
theorem Bor.scr {S : Sto} {x' : D} {xs : List D} (h : Bor S x' (.scr xs)) : x' = .scr xs := by
  rcases h with h | ⟨a, o, _, _, h⟩
  · exact h
  · cases o <;> cases h
theorem Bor.lst {S : Sto} {x' : D} {xs : List D} (h : Bor S x' (.lst xs)) : getL S x' = some xs := by
  rcases h with rfl | ⟨a, o, rfl, h1, h⟩
  · rfl
  · cases o <;> cases h
    simp only [getL, h1]
theorem Bor.lstQ {S : Sto} {x' : D} {xs : List D} (h : Bor S x' (.lst xs)) : getQ S x' = some xs := by
  rcases h with rfl | ⟨a, o, rfl, h1, h⟩
  · rfl
  · cases o <;> cases h
    simp only [getQ, h1]
theorem Bor.dct {S : Sto} {x' : D} {ks vs : List D} (h : Bor S x' (.dct ks vs)) : getD' S x' = some (ks, vs) := by
  rcases h with rfl | ⟨a, o, rfl, h1, h⟩
  · rfl
  · cases o <;> cases h
    simp only [getD', h1]
theorem Bor.res {S : Sto} {x' x : D} (h : Bor S x' x) (hd : isDt x = true) : res S x' = x := by
  rcases h with rfl | ⟨a, o, rfl, h1, h⟩
  · cases x' <;> first | rfl | cases hd
  · cases o <;> cases h
    · simp only [PL.res, h1]
    · cases hd
    · cases hd
abbrev LMX : Nat := 16777216
/-- 2 to the 2000 -/
def MB : Nat := 114813069527425452423283320117768198402231770208869520047764273682576626139237031385665948631650626991844596463898746277344711896086305533142593135616665318539129989145312280000688779148240044871428926990063486244781615463646388363947317026040466353970904996558162398808944629605623311649536164221970332681344168908984458505602379484807914058900934776500429002716706625830522008132236281291761267883317206598995396418127021779858404042159853183251540889433902091920554957783589672039160081957216630582755380425583726015528348786419432054508915275783882625175435528800822842770817965453762184851149029376
theorem mb_pow : MB ≤ 2 ^ 200000 := Nat.le_trans (m := 2 ^ 2001) (by decide +kernel) (Nat.pow_le_pow_right (by decide) (by decide))
theorem mb_div : MB ≤ 2 ^ 8999 := Nat.le_trans (m := 2 ^ 2001) (by decide +kernel) (Nat.pow_le_pow_right (by decide) (by decide))
theorem lmx {n : Nat} (h : n ≤ LMX) : n ≤ sizeLine := by rw [sizeLine_eq]; exact h
def intF (C : Int → Int → Bool) (g : Int → Int → D) : D → D → Option D := fun x y => match x, y with
  | .int i, .int j => if C i j = true then some (g i j) else none
  | _, _ => none
theorem resp_int {C : Int → Int → Prop} {C' : Int → Int → Bool} {g : Int → Int → D} (h : ∀ i j, C' i j = true → C i j) : RespB (intD C g) (intF C' g) := fun {S x' x y' y r} hx hy e => by
  unfold intF at e
  split at e
  · rw [hx.int, hy.int]
    split at e
    · cases e; exact ⟨_, rfl, h _ _ (by assumption)⟩
    · cases e
  · cases e
abbrev subF := intF (fun _ _ => true) fun i j => .int (i - j)
theorem resp_sub : RespB subD subF := resp_int fun _ _ _ => trivial
abbrev fdivF := intF (fun _ j => decide (j ≠ 0) && decide (j.natAbs < MB)) fun i j => .int (i.fdiv j)
theorem resp_fdiv : RespB fdivD fdivF := resp_int fun i j h => by
  rw [Bool.and_eq_true, decide_eq_true_iff, decide_eq_true_iff] at h
  refine .inr ⟨h.1, ?_⟩
  have := l2lt (x := j) (Nat.lt_of_lt_of_le h.2 mb_div) (by decide)
  omega
abbrev modF := intF (fun _ j => decide (j ≠ 0)) fun i j => .int (i.fmod j)
theorem resp_mod : RespB modD modF := resp_int fun i j h => of_decide_eq_true h
instance decCPow {i j : Int} : Decidable (CPow i j) := by unfold CPow; infer_instance
abbrev powF := intF (fun i j => decide (CPow i j)) fun i j => .int (i ^ j.toNat)
theorem resp_pow : RespB powD powF := resp_int fun i j h => of_decide_eq_true h
def addF : D → D → Option D := fun x y => match x, y with
  | .int i, .int j => some (.int (i + j))
  | .str a, .str b => if a.length + b.length ≤ LMX then some (.str (a ++ b)) else none
  | .tup xs, .tup ys => if xs.length + ys.length ≤ LMX then some (.tup (xs ++ ys)) else none
  | .lst xs, .lst ys => if xs.length + ys.length ≤ LMX then some (.lst (xs ++ ys)) else none
  | _, _ => none
theorem addD_L {S : Sto} {x y : D} {xs ys : List D} (h1 : getL S x = some xs) (h2 : getL S y = some ys) : addD S x y = some (xs.length + ys.length ≤ sizeLine, .lst (xs ++ ys)) := by
  cases x <;> simp [getL] at h1 <;> cases y <;> simp [getL] at h2 <;> unfold addD <;> simp_all [getL]
theorem resp_add : RespB addD addF := fun {S x' x y' y r} hx hy e => by
  unfold addF at e
  split at e
  · cases e; rw [hx.int, hy.int]; exact ⟨_, rfl, trivial⟩
  · split at e
    · cases e; rw [hx.str, hy.str]; exact ⟨_, rfl, lmx (by assumption)⟩
    · cases e
  · split at e
    · cases e; rw [hx.tup, hy.tup]; exact ⟨_, rfl, lmx (by assumption)⟩
    · cases e
  · split at e
    · cases e; exact ⟨_, addD_L hx.lst hy.lst, lmx (by assumption)⟩
    · cases e
  · cases e
def mulF : D → D → Option D := fun x y => match x, y with
  | .int i, .int j => if i.natAbs < MB ∧ j.natAbs < MB then some (.int (i * j)) else none
  | .lst xs, .int k => if k < 2 ^ 40 ∧ -2 ^ 40 < k ∧ xs.length * k.toNat ≤ LMX then some (.lst (List.replicate k.toNat xs).flatten) else none
  | .tup xs, .int k => if xs ≠ [] ∧ 2 ≤ k ∧ k ≤ 1000 ∧ xs.length ≤ 1000 then some (.tup (List.replicate k.toNat xs).flatten) else none
  | _, _ => none
/-- products; a list that is lent is not multiplied -/
theorem resp_mul {S : Sto} {x y r : D} (e : mulF x y = some r) : ∃ c, mulD S x y = some (c, r) ∧ c := by
  unfold mulF at e
  split at e
  · split at e
    · cases e; rename_i h; exact ⟨_, rfl, mul_ok (Nat.lt_of_lt_of_le h.1 mb_pow) (Nat.lt_of_lt_of_le h.2 mb_pow) (by decide) (by decide) (by decide)⟩
    · cases e
  · split at e
    · cases e; rename_i h; exact ⟨_, rfl, by omega, by omega, lmx h.2.2⟩
    · cases e
  · split at e
    · cases e; rename_i h; exact ⟨_, rfl, h⟩
    · cases e
  · cases e
theorem pu_opE {g : Sto → D → D → PR} {gf : D → D → Option D} (hr : ∀ {S : Sto} {x y r : D}, gf x y = some r → ∃ c, g S x y = some (c, r) ∧ c) (ha : PuE ta fa) (hb : PuE tb fb) : PuE (tdOp (rdP g) ta tb) (fOp gf fa fb) := .mk fun {S0 φ env S Q d} r e q => by
  obtain ⟨x, e1, e⟩ := obind e
  obtain ⟨y, e2, e⟩ := obind e
  refine p_op (ha.go r e1 (hb.go r e2 ?_))
  obtain ⟨c, e3, hc⟩ := hr e
  exact p_r e3 hc q
def mulSF : D → D → Option D := fun x y => match x, y with
  | .str a, .int n => if 0 ≤ n ∧ n ≤ 1000 ∧ a.length ≤ 1000 then some (.str (Txt.mul a n)) else none
  | _, _ => none
theorem resp_mulS {S : Sto} {x y r : D} (e : mulSF x y = some r) : ∃ c, mulS S x y = some (c, r) ∧ c := by
  unfold mulSF at e
  split at e
  · split at e
    · cases e; exact ⟨_, rfl, by assumption⟩
    · cases e
  · cases e
def ordF (gi : Int → Int → Bool) (gs : Str → Str → Bool) : D → D → Option D := fun x y => match x, y with
  | .int i, .int j => some (.bl (gi i j))
  | .str a, .str b => some (.bl (gs a b))
  | _, _ => none
theorem resp_ord {gi : Int → Int → Bool} {gs : Str → Str → Bool} : RespB (ordD gi gs) (ordF gi gs) := fun {S x' x y' y r} hx hy e => by
  unfold ordF at e
  split at e
  · cases e; rw [hx.int, hy.int]; exact ⟨_, rfl, trivial⟩
  · cases e; rw [hx.str, hy.str]; exact ⟨_, rfl, trivial⟩
  · cases e
abbrev ltF := ordF (fun i j => decide (i < j)) slt
abbrev leF := ordF (fun i j => decide (i ≤ j)) fun a b => !slt b a
abbrev gtF := ordF (fun i j => decide (j < i)) fun a b => slt b a
abbrev geF := ordF (fun i j => decide (j ≤ i)) fun a b => !slt a b
def eqF (neg : Bool) : D → D → Option D := fun x y => if okD x = true ∧ okD y = true then some (.bl (if neg then !eqD x y else eqD x y)) else none
theorem okD_dt {x : D} (h : okD x = true) : isDt x = true := by
  unfold okD at h
  exact (Bool.and_eq_true_iff.mp h).1
theorem resp_eq {neg : Bool} : RespB (eqR neg) (eqF neg) := fun {S x' x y' y r} hx hy e => by
  unfold eqF at e
  split at e
  · cases e
    rename_i h
    have h1 := hx.res (okD_dt h.1)
    have h2 := hy.res (okD_dt h.2)
    refine ⟨_, ?_, h⟩
    unfold eqR
    rw [h1, h2]
  · cases e
def isNF (neg : Bool) : D → D → Option D := fun x y => match y with
  | .non => some (.bl (if neg then !isNon x else isNon x))
  | .bl b => match x with
    | .bl a => some (.bl (if neg then !decide (a = b) else decide (a = b)))
    | _ => none
  | _ => none
theorem resp_isN {neg : Bool} : RespB (isNR neg) (isNF neg) := fun {S x' x y' y r} hx hy e => by
  unfold isNF at e
  split at e
  · cases e; rw [hy.non]
    have : isNon x' = isNon x := by
      rcases hx with rfl | ⟨a, o, rfl, _, h⟩
      · rfl
      · cases o <;> cases h <;> rfl
    refine ⟨True, ?_, trivial⟩
    unfold isNR
    rw [this]
  · split at e
    · cases e; rw [hx.bl, hy.bl]; exact ⟨_, rfl, trivial⟩
    · cases e
  · cases e
def inF (neg : Bool) : D → D → Option D := fun x y => match y with
  | .str z => match x with
    | .str ⟨⟨[c]⟩⟩ => some (.bl (if neg then !decide (c ∈ z.cps.toList) else decide (c ∈ z.cps.toList)))
    | _ => none
  | .tup ds => if flD x = true ∧ ds.all flD = true then some (.bl (if neg then !inD x ds else inD x ds)) else none
  | .lst ds => if okD x = true ∧ okD (.lst ds) = true then some (.bl (if neg then !inD x ds else inD x ds)) else none
  | _ => none
theorem inR_L {neg : Bool} {S : Sto} {x y : D} {ds : List D} (h : getL S y = some ds) : PL.inR neg S x y = some (okD x = true ∧ okD (.lst ds) = true, .bl (if neg then !inD x ds else inD x ds)) := by
  unfold PL.inR
  split
  · cases h
  · cases h
  · rw [h]
theorem pu_in {neg : Bool} (ha : PuE ta fa) (hb : PuB tb fb) : PuE (tdOp (rdP (PL.inR neg)) ta tb) (fOp (inF neg) fa fb) := .mk fun {S0 φ env S Q d} r e q => by
  obtain ⟨x, e1, e⟩ := obind e
  obtain ⟨y, e2, e⟩ := obind e
  refine p_op (ha.go r e1 (hb.go r e2 fun y' hy => ?_))
  unfold inF at e
  split at e
  · split at e
    · cases e; rw [hy.str]; exact p_r rfl trivial q
    · cases e
  · split at e
    · cases e; rw [hy.tup]; exact p_r inR_tup (by assumption) q
    · cases e
  · split at e
    · cases e; exact p_r (inR_L hy.lst) (by assumption) q
    · cases e
  · cases e
def ixF : D → D → Option D := fun x y => match y with
  | .int i => match x with
    | .lst ds => atI ds i
    | .tup ds => atI ds i
    | .scr ds => atI ds i
    | .str z => if z.length ≤ LMX then (atI z.cps.toList i).map fun c => .str ⟨#[c]⟩ else none
    | _ => none
  | _ => none
theorem resp_ix : RespB ixD ixF := fun {S x' x y' y r} hx hy e => by
  unfold ixF at e
  split at e
  · rw [hy.int]
    split at e
    · refine ⟨True, ?_, trivial⟩
      unfold ixD
      simp only [hx.lstQ, e]
    · refine ⟨True, ?_, trivial⟩
      rw [hx.tup]
      unfold ixD
      simp only [getQ, e]
    · refine ⟨True, ?_, trivial⟩
      rw [hx.scr]
      unfold ixD
      simp only [getQ, e]
    · split at e
      · rename_i h
        obtain ⟨c, e1, e2⟩ := Option.map_eq_some_iff.mp e
        cases e2
        rw [hx.str]
        refine ⟨_, ?_, lmx h⟩
        unfold ixD
        simp only [getQ, e1]
      · cases e
    · cases e
  · cases e
/-! ### calls of built-ins -/
def fCB (g : List D → Option D) (fa : FA) : FE := fun φ => (fa φ).bind g
def RespC (g : Sto → List D → PR) (gf : List D → Option D) : Prop := ∀ {S : Sto} {x' x : List D} {r : D}, BorL S x' x → gf x = some r → ∃ c, g S x' = some (c, r) ∧ c
theorem pu_cb {g : Sto → List D → PR} {gf : List D → Option D} (hr : RespC g gf) (ha : PuAB tA FA') : PuE (tdCB (rdC g) tA) (fCB gf FA') := .mk fun {S0 φ env S Q d} r e q => by
  obtain ⟨x, e1, e⟩ := obind e
  refine p_cb (ha.go r e1 fun x' hx => ?_)
  obtain ⟨c, e3, hc⟩ := hr hx e
  exact p_rc e3 hc q
def one (g : D → Option D) : List D → Option D
  | [x] => g x
  | _ => none
theorem BorL.one {S : Sto} {xs : List D} {x : D} (h : BorL S xs [x]) : ∃ y, xs = [y] ∧ Bor S y x := by
  cases h with
  | cons h t => cases t; exact ⟨_, rfl, h⟩
theorem respC_one {g : Sto → List D → PR} {gf : D → Option D} (h : ∀ {S : Sto} {x' x r : D}, Bor S x' x → gf x = some r → ∃ c, g S [x'] = some (c, r) ∧ c) : RespC g (one gf) := fun {S x' x r} hx e => by
  unfold one at e
  split at e
  · obtain ⟨y, rfl, hy⟩ := hx.one
    exact h hy e
  · cases e
def lenF : List D → Option D := one fun x => match x with
  | .lst xs => some (.int xs.length)
  | .tup xs => some (.int xs.length)
  | .scr xs => some (.int xs.length)
  | .str z => if z.length ≤ LMX then some (.int z.length) else none
  | _ => none
theorem resp_len : RespC lenD lenF := respC_one fun {S x' x r} hx e => by
  split at e
  · cases e
    refine ⟨True, ?_, trivial⟩
    unfold lenD; simp only [hx.lstQ]
  · cases e; rw [hx.tup]; exact ⟨_, rfl, trivial⟩
  · cases e; rw [hx.scr]; exact ⟨_, rfl, trivial⟩
  · split at e
    · cases e; rw [hx.str]; exact ⟨_, rfl, lmx (by assumption)⟩
    · cases e
  · cases e
def qntF (g : List Bool → Bool) : List D → Option D := one fun x => match x with
  | .lst xs => (asB xs).map fun bs => .bl (g bs)
  | _ => none
theorem resp_qnt {g : List Bool → Bool} : RespC (qntD g) (qntF g) := respC_one fun {S x' x r} hx e => by
  split at e
  · obtain ⟨bs, e1, e2⟩ := Option.map_eq_some_iff.mp e
    cases e2
    refine ⟨True, ?_, trivial⟩
    unfold qntD; simp only [hx.lst, Option.bind_some, e1]
  · cases e
abbrev allF := qntF fun bs => bs.all id
abbrev anyF := qntF fun bs => bs.any id
def sumF : List D → Option D := one fun x => match x with
  | .lst xs => (asI xs).map fun ns => .int ns.sum
  | _ => none
theorem resp_sum : RespC sumD sumF := respC_one fun {S x' x r} hx e => by
  split at e
  · obtain ⟨bs, e1, e2⟩ := Option.map_eq_some_iff.mp e
    cases e2
    refine ⟨True, ?_, trivial⟩
    unfold sumD; simp only [hx.lst, Option.bind_some, e1]
  · cases e
def sumTF : List D → Option D := one fun x => match x with
  | .tup xs => (asI xs).map fun ns => .int ns.sum
  | _ => none
theorem resp_sumT : RespC sumT sumTF := respC_one fun {S x' x r} hx e => by
  split at e
  · obtain ⟨bs, e1, e2⟩ := Option.map_eq_some_iff.mp e
    cases e2
    rw [hx.tup]
    refine ⟨True, ?_, trivial⟩
    unfold sumT; simp only [e1]
  · cases e
def tupleF : List D → Option D := one fun x => match x with
  | .tup xs => some (.tup xs)
  | .lst xs => some (.tup xs)
  | _ => none
theorem tupleD_L {S : Sto} {x : D} {xs : List D} (h : getL S x = some xs) : tupleD S [x] = some (True, .tup xs) := by
  cases x <;> simp [getL] at h <;> unfold tupleD <;> simp_all [getL]
theorem resp_tuple : RespC tupleD tupleF := respC_one fun {S x' x r} hx e => by
  split at e
  · cases e; rw [hx.tup]; exact ⟨_, rfl, trivial⟩
  · cases e; exact ⟨_, tupleD_L hx.lst, trivial⟩
  · cases e
def seqF : D → Option (List D)
  | .lst xs => some xs
  | .tup xs => some xs
  | .scr xs => some xs
  | _ => none
theorem Bor.seqF {S : Sto} {x' x : D} {xs : List D} (h : Bor S x' x) (e : PL.seqF x = some xs) : getQ S x' = some xs := by
  unfold PL.seqF at e
  split at e
  · cases e; exact h.lstQ
  · cases e; rw [h.tup]; rfl
  · cases e; rw [h.scr]; rfl
  · cases e
def listF : List D → Option D := one fun x => (seqF x).map .lst
theorem resp_list : RespC listD listF := respC_one fun {S x' x r} hx e => by
  obtain ⟨bs, e1, e2⟩ := Option.map_eq_some_iff.mp e
  cases e2
  refine ⟨True, ?_, trivial⟩
  unfold listD; simp only [hx.seqF e1]
def intF1 : List D → Option D := one fun x => match x with
  | .int i => some (.int i)
  | .bl b => some (.int (if b then 1 else 0))
  | _ => none
theorem resp_int1 : RespC intD1 intF1 := respC_one fun {S x' x r} hx e => by
  split at e
  · cases e; rw [hx.int]; exact ⟨_, rfl, trivial⟩
  · cases e; rw [hx.bl]; exact ⟨_, rfl, trivial⟩
  · cases e
def strF1 : List D → Option D := one fun x => match x with
  | .int i => if i.natAbs < 2 ^ 1919 then some (.str (toString i)) else none
  | .str x => some (.str x)
  | _ => none
theorem resp_str1 : RespC strD1 strF1 := respC_one fun {S x' x r} hx e => by
  split at e
  · split at e
    · cases e; rw [hx.int]
      rename_i h
      refine ⟨_, rfl, ?_⟩
      have := l2lt h (by decide)
      omega
    · cases e
  · cases e; rw [hx.str]; exact ⟨_, rfl, trivial⟩
  · cases e
def ordF1 : List D → Option D := one fun x => match x with
  | .str x => if x.length = 1 then some (.int (x.cps.getD 0 0 : Nat)) else none
  | _ => none
theorem resp_ord1 : RespC ordD1 ordF1 := respC_one fun {S x' x r} hx e => by
  split at e
  · split at e
    · cases e; rw [hx.str]; exact ⟨_, rfl, by assumption⟩
    · cases e
  · cases e
def twoF (g : Int → Int → Int) : List D → Option D
  | [.int i, .int j] => some (.int (g i j))
  | _ => none
theorem resp_two {g : Int → Int → Int} : RespC (two g) (twoF g) := fun {S x' x r} hx e => by
  unfold twoF at e
  split at e
  · cases e
    cases hx with
    | cons h t => cases t with
      | cons h2 t => cases t; rw [h.int, h2.int]; exact ⟨_, rfl, trivial⟩
  · cases e
abbrev minF := twoF fun i j => if j < i then j else i
abbrev maxF := twoF fun i j => if j > i then j else i
def reprB (d : D) : Bool := isDt d && (pyd d).showable && !(pyd d).hasDict && decide ((pyd d).shown.length ≤ LMX) && decide ((pyd d).depth ≤ 100)
theorem reprB_ok {d : D} (h : reprB d = true) : reprOk d := by
  unfold reprB at h
  simp only [Bool.and_eq_true, decide_eq_true_iff, Bool.not_eq_true'] at h
  exact ⟨h.1.1.1.1, h.1.1.1.2, h.1.1.2, lmx h.1.2, h.2⟩
def reprF : List D → Option D := one fun x => if reprB x = true then some (.str (pyd x).shown) else none
theorem resp_repr : RespC reprR reprF := respC_one fun {S x' x r} hx e => by
  split at e
  · cases e
    rename_i h
    have hk := reprB_ok h
    have := hx.res hk.1
    refine ⟨_, ?_, hk⟩
    show some (reprOk (res S x'), D.str (pyd (res S x')).shown) = _
    rw [this]
  · cases e
def typF : D → Option String
  | .non => some "NoneType"
  | .bl _ => some "bool"
  | .int _ => some "int"
  | .str _ => some "str"
  | .tup _ => some "tuple"
  | .lst _ => some "list"
  | .dct _ _ => some "dict"
  | .dtt _ _ => some "dict"
  | _ => none
def isiF : List D → Option D
  | [x, .ty n] => match typF x with
    | some t => if n ∈ ["NoneType", "bool", "int", "str", "tuple", "list", "dict"] then some (.bl (isaB t n)) else none
    | none => none
  | _ => none
end
end PL

namespace PL
open PySem PySem.Spec PyProof.Rows L2

section
variable {S0 S : Sto} {φ : FEnv} {env : Env'}
/-! ### the frame's changes -/
theorem set_get {α : Type} {l : List (Option α)} {i j : Nat} {x : Option α} {y : α} (h : (l.set i x)[j]? = some (some y)) : (i = j ∧ j < l.length ∧ x = some y) ∨ (i ≠ j ∧ l[j]? = some (some y)) := by
  by_cases e : i = j
  · subst e
    by_cases hl : i < l.length
    · rw [List.getElem?_set_self hl] at h; cases h; exact .inl ⟨rfl, hl, rfl⟩
    · rw [List.getElem?_eq_none (by simpa using hl)] at h; cases h
  · rw [List.getElem?_set_ne e] at h; exact .inr ⟨e, h⟩
theorem Rel.setV (r : Rel S0 φ env S) (i : Nat) (d : D) : Rel S0 (φ.set i (some (.val d))) (env.set i (some d)) S where
  len := by simpa using r.len
  base := r.base
  val := fun j d' h => by
    rcases set_get h with ⟨rfl, hl, e⟩ | ⟨e, h⟩
    · cases e; rw [List.getElem?_set_self (by rw [r.len]; exact hl)]
    · rw [List.getElem?_set_ne e]; exact r.val _ _ h
  own := fun j o h => by
    rcases set_get h with ⟨rfl, hl, e⟩ | ⟨e, h⟩
    · cases e
    · rw [List.getElem?_set_ne e]; exact r.own _ _ h
  inj := fun j k o o' a h h' h1 h2 => by
    rcases set_get h with ⟨rfl, hl, e⟩ | ⟨e, h⟩
    · cases e
    · rcases set_get h' with ⟨rfl, hl, e'⟩ | ⟨e', h'⟩
      · cases e'
      · rw [List.getElem?_set_ne e] at h1
        rw [List.getElem?_set_ne e'] at h2
        exact r.inj j k o o' a h h' h1 h2
theorem Rel.clr (r : Rel S0 φ env S) (i : Nat) : Rel S0 (φ.set i none) env S where
  len := by simpa using r.len
  base := r.base
  val := fun j d' h => by
    rcases set_get h with ⟨rfl, hl, e⟩ | ⟨e, h⟩
    · cases e
    · exact r.val _ _ h
  own := fun j o h => by
    rcases set_get h with ⟨rfl, hl, e⟩ | ⟨e, h⟩
    · cases e
    · exact r.own _ _ h
  inj := fun j k o o' a h h' h1 h2 => by
    rcases set_get h with ⟨rfl, hl, e⟩ | ⟨e, h⟩
    · cases e
    · rcases set_get h' with ⟨rfl, hl, e'⟩ | ⟨e', h'⟩
      · cases e'
      · exact r.inj j k o o' a h h' h1 h2
def Free (φ : FEnv) (env : Env') (p : Addr) : Prop := ∀ (j : Nat) (o : MO), φ[j]? = some (some (SV.own o)) → env[j]? ≠ some (some (D.ref p))
theorem Rel.setO (r : Rel S0 φ env S) (i : Nat) {p : Addr} {o : MO} (hp : S p = some o) (h0 : S0 p = none) (hf : Free φ env p) : Rel S0 (φ.set i (some (.own o))) (env.set i (some (.ref p))) S where
  len := by simpa using r.len
  base := r.base
  val := fun j d' h => by
    rcases set_get h with ⟨rfl, hl, e⟩ | ⟨e, h⟩
    · cases e
    · rw [List.getElem?_set_ne e]; exact r.val _ _ h
  own := fun j o h => by
    rcases set_get h with ⟨rfl, hl, e⟩ | ⟨e, h⟩
    · cases e; exact ⟨p, by rw [List.getElem?_set_self (by rw [r.len]; exact hl)], hp, h0⟩
    · rw [List.getElem?_set_ne e]; exact r.own _ _ h
  inj := fun j k o o' a h h' h1 h2 => by
    rcases set_get h with ⟨rfl, hl, e⟩ | ⟨e, h⟩
    · rcases set_get h' with ⟨rfl, hl', e'⟩ | ⟨e', h'⟩
      · rfl
      · rw [List.getElem?_set_self (by rw [r.len]; exact hl)] at h1
        rw [List.getElem?_set_ne e'] at h2
        cases h1
        exact (hf _ _ h' h2).elim
    · rcases set_get h' with ⟨rfl, hl', e'⟩ | ⟨e', h'⟩
      · rw [List.getElem?_set_self (by rw [r.len]; exact hl')] at h2
        rw [List.getElem?_set_ne e] at h1
        cases h2
        exact (hf _ _ h h1).elim
      · rw [List.getElem?_set_ne e] at h1
        rw [List.getElem?_set_ne e'] at h2
        exact r.inj j k o o' a h h' h1 h2
theorem Rel.free (r : Rel S0 φ env S) {p : Addr} (hp : S p = none) : Free φ env p := fun j o h e => by
  obtain ⟨a, h1, h2, _⟩ := r.own j o h
  rw [h1] at e; cases e
  rw [hp] at h2; cases h2
theorem Rel.none0 (r : Rel S0 φ env S) {p : Addr} (hp : S p = none) : S0 p = none := by
  cases q : S0 p with
  | none => rfl
  | some o => rw [r.base _ _ q] at hp; cases hp
theorem Rel.fresh (r : Rel S0 φ env S) {p : Addr} {o : MO} (hp : S p = none) : Rel S0 φ env (sup S p o) where
  len := r.len
  base := fun a o' h => by
    rw [sup_ne (fun e => by subst e; rw [r.none0 hp] at h; cases h)]; exact r.base _ _ h
  val := r.val
  own := fun j o' h => by
    obtain ⟨a, h1, h2, h3⟩ := r.own j o' h
    exact ⟨a, h1, by rw [sup_ne (fun e => by subst e; rw [hp] at h2; cases h2)]; exact h2, h3⟩
  inj := r.inj
/-- an object of a slot is changed -/
theorem Rel.upd (r : Rel S0 φ env S) {i : Nat} {a : Addr} {o o' : MO} (h : φ[i]? = some (some (SV.own o))) (ha : env[i]? = some (some (D.ref a))) : Rel S0 (φ.set i (some (.own o'))) env (sup S a o') where
  len := by simpa using r.len
  base := fun b o2 h2 => by
    obtain ⟨a', h1, h3, h4⟩ := r.own _ _ h
    rw [ha] at h1; cases h1
    rw [sup_ne (fun e => by subst e; rw [h4] at h2; cases h2)]
    exact r.base _ _ h2
  val := fun j d' h => by
    rcases set_get h with ⟨rfl, hl, e⟩ | ⟨e, h⟩
    · cases e
    · exact r.val _ _ h
  own := fun j o2 h2 => by
    rcases set_get h2 with ⟨rfl, hl, e⟩ | ⟨e, h2⟩
    · cases e
      obtain ⟨a', h1, h3, h4⟩ := r.own _ _ h
      rw [ha] at h1; cases h1
      exact ⟨a, ha, sup_same, h4⟩
    · obtain ⟨b, h1, h3, h4⟩ := r.own _ _ h2
      refine ⟨b, h1, ?_, h4⟩
      rw [sup_ne fun e' => e (by subst e'; exact r.inj _ _ _ _ _ h h2 ha h1)]
      exact h3
  inj := fun j k o o' a' h1 h2 h3 h4 => by
    have hj : ∃ o, φ[j]? = some (some (SV.own o)) := by
      rcases set_get h1 with ⟨rfl, hl, e⟩ | ⟨e, h1⟩
      · exact ⟨_, h⟩
      · exact ⟨_, h1⟩
    have hk : ∃ o, φ[k]? = some (some (SV.own o)) := by
      rcases set_get h2 with ⟨rfl, hl, e⟩ | ⟨e, h1⟩
      · exact ⟨_, h⟩
      · exact ⟨_, h1⟩
    obtain ⟨_, hj⟩ := hj
    obtain ⟨_, hk⟩ := hk
    exact r.inj _ _ _ _ _ hj hk h3 h4
theorem Rel.freeze (r : Rel S0 φ env S) {i : Nat} {a : Addr} {o : MO} {d : D} (h : φ[i]? = some (some (SV.own o))) (ha : env[i]? = some (some (D.ref a))) : Rel S0 (φ.set i (some (.val d))) (env.set i (some d)) (sdel S a) where
  len := by simpa using r.len
  base := fun b o2 h2 => by
    obtain ⟨a', h1, h3, h4⟩ := r.own _ _ h
    rw [ha] at h1; cases h1
    rw [sdel_ne (fun e => by subst e; rw [h4] at h2; cases h2)]
    exact r.base _ _ h2
  val := (r.setV i d).val
  own := fun j o2 h2 => by
    rcases set_get h2 with ⟨rfl, hl, e⟩ | ⟨e, h2⟩
    · cases e
    · obtain ⟨b, h1, h3, h4⟩ := r.own _ _ h2
      refine ⟨b, by rw [List.getElem?_set_ne e]; exact h1, ?_, h4⟩
      rw [sdel_ne fun e' => e (by subst e'; exact r.inj _ _ _ _ _ h h2 ha h1)]
      exact h3
  inj := (r.setV i d).inj
def wipeF (φ : FEnv) : List Nat → FEnv
  | [] => φ
  | v :: vs => (wipeF φ vs).set v none
theorem Rel.wipe (r : Rel S0 φ env S) : ∀ vs : List Nat, Rel S0 (wipeF φ vs) (wipeD env vs) S
  | [] => r
  | v :: vs => by
    have ih := Rel.wipe r vs
    unfold wipeF wipeD
    refine ⟨by simpa using ih.len, ih.base, fun j d h => ?_, fun j o h => ?_, fun j k o o' a h h' h1 h2 => ?_⟩
    · rcases set_get h with ⟨rfl, hl, e⟩ | ⟨e, h⟩
      · cases e
      · rw [List.getElem?_set_ne e]; exact ih.val _ _ h
    · rcases set_get h with ⟨rfl, hl, e⟩ | ⟨e, h⟩
      · cases e
      · rw [List.getElem?_set_ne e]; exact ih.own _ _ h
    · rcases set_get h with ⟨rfl, hl, e⟩ | ⟨e, h⟩
      · cases e
      · rcases set_get h' with ⟨rfl, hl, e'⟩ | ⟨e', h'⟩
        · cases e'
        · rw [List.getElem?_set_ne e] at h1
          rw [List.getElem?_set_ne e'] at h2
          exact ih.inj _ _ _ _ _ h h' h1 h2
def clrF (φ : FEnv) : List Nat → FEnv
  | [] => φ
  | v :: vs => clrF (φ.set v none) vs
theorem Rel.clrs : ∀ (vs : List Nat) {φ : FEnv}, Rel S0 φ env S → Rel S0 (clrF φ vs) env S
  | [], _, r => r
  | v :: vs, _, r => Rel.clrs vs (r.clr v)
mutual
def bindF : TPat → D → FEnv → Option FEnv
  | .nm i, d, φ => some (φ.set i (some (.val d)))
  | .tp l, d, φ => match d with
    | .tup ds => bindFs l ds φ
    | _ => none
def bindFs : TPats → List D → FEnv → Option FEnv
  | .nil, ds, φ => match ds with
    | [] => some φ
    | _ => none
  | .cons p l, ds, φ => match ds with
    | [] => none
    | d :: r => (bindF p d φ).bind fun φ' => bindFs l r φ'
end
mutual
theorem Rel.bind : ∀ {p : TPat} {d : D} {φ φ' : FEnv} {env : Env'}, Rel S0 φ env S → bindF p d φ = some φ' → ∃ env', bindD p d env = some env' ∧ Rel S0 φ' env' S
  | .nm i, d, φ, φ', env, r, e => by
    unfold bindF at e; cases e
    exact ⟨_, by unfold bindD; rfl, r.setV i d⟩
  | .tp l, d, φ, φ', env, r, e => by
    unfold bindF at e
    split at e
    · obtain ⟨env', h1, h2⟩ := Rel.binds r e
      exact ⟨env', by unfold bindD; exact h1, h2⟩
    · cases e
theorem Rel.binds : ∀ {l : TPats} {ds : List D} {φ φ' : FEnv} {env : Env'}, Rel S0 φ env S → bindFs l ds φ = some φ' → ∃ env', bindDs l ds env = some env' ∧ Rel S0 φ' env' S
  | .nil, ds, φ, φ', env, r, e => by
    unfold bindFs at e
    split at e
    · cases e; exact ⟨env, by unfold bindDs; rfl, r⟩
    · cases e
  | .cons p l, ds, φ, φ', env, r, e => by
    unfold bindFs at e
    split at e
    · cases e
    · obtain ⟨φ1, e1, e2⟩ := obind e
      obtain ⟨env1, h1, h2⟩ := Rel.bind r e1
      obtain ⟨env2, h3, h4⟩ := Rel.binds h2 e2
      exact ⟨env2, by unfold bindDs; simp only [h1]; exact h3, h4⟩
end
def startF (N : List Str) (ds : List D) : FEnv := ds.map (fun d => some (SV.val d)) ++ List.replicate (N.length - ds.length) none
theorem rel_start {S : Sto} {N : List Str} {ds : List D} : Rel S (startF N ds) (envStart N ds) S := by
  have key : ∀ (i : Nat) (v : SV), (startF N ds)[i]? = some (some v) → ∃ d, v = .val d ∧ ds[i]? = some d := fun i v h => by
    unfold startF at h
    by_cases hi : i < ds.length
    · rw [List.getElem?_append_left (by simpa using hi), List.getElem?_map] at h
      cases q : ds[i]? with
      | none => rw [q] at h; cases h
      | some d => rw [q] at h; cases h; exact ⟨d, rfl, rfl⟩
    · rw [List.getElem?_append_right (by simpa using hi)] at h
      have := List.mem_of_getElem? h
      rw [List.mem_replicate] at this
      cases this.2
  refine ⟨by unfold startF envStart; simp, fun _ _ h => h, fun i d h => ?_, fun i o h => ?_, fun i j o o' a h => ?_⟩
  · obtain ⟨d', e, h2⟩ := key i _ h
    cases e
    unfold envStart
    have hi := (List.getElem?_eq_some_iff.mp h2).1
    rw [List.getElem?_append_left (by simpa using hi), List.getElem?_map, h2]; rfl
  · obtain ⟨d', e, h2⟩ := key i _ h; cases e
  · obtain ⟨d', e, h2⟩ := key i _ h; cases e
end
section
variable {t ta tb te tf to : TED} {fa fb fc fo : FE} {tc tu : TTD} {gc gu : FT} {tA tK : TAD} {FA' FK : FA}
/-! ### rows of values -/
def fNil : FA := fun _ => some []
def fCons (f : FE) (r : FA) : FA := fun φ => (f φ).bind fun x => (r φ).bind fun xs => some (x :: xs)
theorem pu_nil : PuA tdNil fNil := .mk fun r e q => by cases e; exact q
theorem pu_cons (ha : PuE ta fa) (hr : PuA tA FA') : PuA (tdCons ta tA) (fCons fa FA') := .mk fun {S0 φ env S Q d} r e q => by
  obtain ⟨x, e1, e⟩ := obind e
  obtain ⟨y, e2, e⟩ := obind e
  cases e
  exact p_cons (ha.go r e1 (hr.go r e2 q))
theorem pu_consB (ha : PuB ta fa) (hr : PuAB tA FA') : PuAB (tdCons ta tA) (fCons fa FA') := .mk fun {S0 φ env S Q d} r e q => by
  obtain ⟨x, e1, e⟩ := obind e
  obtain ⟨y, e2, e⟩ := obind e
  cases e
  exact p_cons (ha.go r e1 fun x' hx => hr.go r e2 fun y' hy => q _ (.cons hx hy))
theorem pu_nilB : PuAB tdNil fNil := pu_nil.b
def fTup (fa : FA) : FE := fun φ => (fa φ).bind fun ds => if ds.length ≤ LMX then some (.tup ds) else none
def fLst (fa : FA) : FE := fun φ => (fa φ).bind fun ds => if ds.length ≤ LMX then some (.lst ds) else none
theorem pu_tup (ha : PuA tA FA') : PuE (tdTup tA) (fTup FA') := .mk fun {S0 φ env S Q d} r e q => by
  obtain ⟨x, e1, e⟩ := obind e
  split at e
  · cases e; exact p_tup (ha.go r e1 ⟨lmx (by assumption), q⟩)
  · cases e
theorem pu_lst (ha : PuA tA FA') : PuE (tdLst tA) (fLst FA') := .mk fun {S0 φ env S Q d} r e q => by
  obtain ⟨x, e1, e⟩ := obind e
  split at e
  · cases e; exact p_lst (ha.go r e1 ⟨lmx (by assumption), q⟩)
  · cases e
/-! ### tests -/
def fB (f : FE) : FT := fun φ => match f φ with
  | some (.bl b) => some b
  | _ => none
theorem fB_some {φ : FEnv} {b : Bool} (e : fB fa φ = some b) : fa φ = some (.bl b) := by
  unfold fB at e
  split at e
  · cases e; assumption
  · cases e
theorem pu_b (ha : PuE ta fa) : PuT (tdB ta) (fB fa) := .mk fun {S0 φ env S Q d} r e q => p_b (ha.go r (fB_some e) q)
def fAnd (c u : FT) : FT := fun φ => (c φ).bind fun b => if b = true then u φ else some false
def fOr (c u : FT) : FT := fun φ => (c φ).bind fun b => if b = true then some true else u φ
def fNot (c : FT) : FT := fun φ => (c φ).map fun b => !b
theorem pu_and (h1 : PuT tc gc) (h2 : PuT tu gu) : PuT (tdAnd tc tu) (fAnd gc gu) := .mk fun {S0 φ env S Q d} r e q => by
  obtain ⟨x, e1, e⟩ := obind e
  refine p_and (h1.go r e1 ?_)
  cases x
  · cases e; exact q
  · exact h2.go r e q
theorem pu_or (h1 : PuT tc gc) (h2 : PuT tu gu) : PuT (tdOr tc tu) (fOr gc gu) := .mk fun {S0 φ env S Q d} r e q => by
  obtain ⟨x, e1, e⟩ := obind e
  refine p_or (h1.go r e1 ?_)
  cases x
  · exact h2.go r e q
  · cases e; exact q
theorem pu_not (h1 : PuT tc gc) : PuT (tdNot tc) (fNot gc) := .mk fun {S0 φ env S Q d} r e q => by
  obtain ⟨x, e1, e⟩ := Option.map_eq_some_iff.mp e
  subst e
  exact p_not (h1.go r e1 q)
def fAndV (f g : FE) : FE := fun φ => (fB f φ).bind fun b => if b = true then g φ else some (.bl false)
def fOrV (f g : FE) : FE := fun φ => (fB f φ).bind fun b => if b = true then some (.bl true) else g φ
def fNotV (f : FE) : FE := fun φ => (fB f φ).map fun b => .bl (!b)
theorem pu_andV (h1 : PuE ta fa) (h2 : PuE tb fb) : PuE (tdAndV ta tb) (fAndV fa fb) := .mk fun {S0 φ env S Q d} r e q => by
  obtain ⟨x, e1, e⟩ := obind e
  refine p_andV (h1.go r (fB_some e1) (p_qb ?_))
  cases x
  · cases e; exact q
  · exact h2.go r e q
theorem pu_orV (h1 : PuE ta fa) (h2 : PuE tb fb) : PuE (tdOrV ta tb) (fOrV fa fb) := .mk fun {S0 φ env S Q d} r e q => by
  obtain ⟨x, e1, e⟩ := obind e
  refine p_orV (h1.go r (fB_some e1) (p_qb ?_))
  cases x
  · exact h2.go r e q
  · cases e; exact q
theorem pu_notV (h1 : PuE ta fa) : PuE (tdNotV ta) (fNotV fa) := .mk fun {S0 φ env S Q d} r e q => by
  obtain ⟨x, e1, e⟩ := Option.map_eq_some_iff.mp e
  subst e
  exact p_notV (h1.go r (fB_some e1) (p_qb q))
def fIf (c : FT) (f g : FE) : FE := fun φ => (c φ).bind fun b => if b = true then f φ else g φ
theorem pu_if (h : PuT tc gc) (h1 : PuE ta fa) (h2 : PuE tb fb) : PuE (tdIf tc ta tb) (fIf gc fa fb) := .mk fun {S0 φ env S Q d} r e q => by
  obtain ⟨x, e1, e⟩ := obind e
  refine p_if (h.go r e1 ?_)
  cases x
  · exact h2.go r e q
  · exact h1.go r e q
def fChain (g g' : D → D → Option D) (fa fb fc : FE) : FE := fun φ => (fa φ).bind fun x => (fb φ).bind fun y => (g x y).bind fun z => match z with
  | .bl true => (fc φ).bind fun w => g' y w
  | .bl false => some (.bl false)
  | _ => none
theorem pu_chain {g g' : Sto → D → D → PR} {gf gf' : D → D → Option D} (hr : RespB g gf) (hr' : RespB g' gf') (ha : PuE ta fa) (hb : PuE tb fb) (hc : PuE te fc) : PuE (tdChain (rdP g) (rdP g') ta tb te) (fChain gf gf' fa fb fc) := .mk fun {S0 φ env S Q d} r e q => by
  obtain ⟨x, e1, e⟩ := obind e
  obtain ⟨y, e2, e⟩ := obind e
  obtain ⟨z, e3, e⟩ := obind e
  refine p_chain (ha.go r e1 (hb.go r e2 ?_))
  obtain ⟨c, h1, h2⟩ := hr .rfl .rfl e3
  refine p_r h1 h2 ?_
  split at e
  · obtain ⟨w, e4, e⟩ := obind e
    refine p_qb (p_T rfl (hc.go r e4 ?_))
    obtain ⟨c, h1, h2⟩ := hr' .rfl .rfl e
    exact p_r h1 h2 q
  · cases e; exact p_qb (p_F rfl q)
  · cases e
def fUn (g : D → Option D) (fa : FE) : FE := fun φ => (fa φ).bind g
def negF : D → Option D
  | .int i => some (.int (-i))
  | _ => none
theorem pu_neg (ha : PuE ta fa) : PuE (tdUn rdNeg ta) (fUn negF fa) := .mk fun {S0 φ env S Q d} r e q => by
  obtain ⟨x, e1, e⟩ := obind e
  refine p_un (ha.go r e1 ?_)
  unfold negF at e
  split at e
  · cases e; exact p_neg q
  · cases e
/-! ### isinstance -/
theorem pu_isi {n : String} (hn : n ∈ ["NoneType", "bool", "int", "str", "tuple", "list", "dict"] := by decide) (ha : PuB ta fa) : PuE (tdCB (rdC isiD) (tdCons ta (tdCons (tdC (.ty n)) tdNil))) (fUn (fun x => (typF x).map fun t => .bl (isaB t n)) fa) := .mk fun {S0 φ env S Q d} r e q => by
  obtain ⟨x, e1, e⟩ := obind e
  obtain ⟨t, e2, e⟩ := Option.map_eq_some_iff.mp e
  subst e
  refine p_cb (p_cons (ha.go r e1 fun x' hx => p_cons (p_c (p_nil (p_isi (t := t) ?_ hn q)))))
  rcases hx with rfl | ⟨a, o, rfl, h1, h⟩
  · cases x' <;> first | exact e2 | cases e2
  · cases o <;> cases h <;> cases e2 <;> simp only [typD, h1]
/-! ### calls -/
def fCall (fn : List D → Option D) (fa : FA) : FE := fun φ => (fa φ).bind fn
theorem pu_call {sp : SpD} {fn : List D → Option D} (hp : Pure sp fn) (ha : PuA tA FA') : PuE (tdCall sp [] tA) (fCall fn FA') := .mk fun {S0 φ env S Q d} r e q => by
  obtain ⟨x, e1, e⟩ := obind e
  exact p_call0 (ha.go r e1 (hp.go e q))
def fCallK (fn : List D → Option D) (n m : Nat) (pm : List Nat) (fa fk : FA) : FE := fun φ => (fa φ).bind fun ds => (fk φ).bind fun zs => if ds.length = n ∧ zs.length = m then fn (pick pm (ds ++ zs)) else none
theorem pu_callK {sp : SpD} {fn : List D → Option D} {n m : Nat} {pm : List Nat} (hp : Pure sp fn) (ha : PuA tA FA') (hk : PuA tK FK) : PuE (tdCallK sp n m pm [] tA tK) (fCallK fn n m pm FA' FK) := .mk fun {S0 φ env S Q d} r e q => by
  obtain ⟨x, e1, e⟩ := obind e
  obtain ⟨y, e2, e⟩ := obind e
  split at e
  · rename_i h
    refine p_callK (ha.go r e1 (hk.go r e2 ⟨h.1, h.2, ?_⟩))
    rw [List.append_nil]
    exact hp.go e q
  · cases e
/-! ### slices -/
def fNoPart : FEnv → Option (Option Int) := fun _ => some none
def fPart (f : FE) : FEnv → Option (Option Int) := fun φ => match f φ with
  | some (.int i) => some (some i)
  | _ => none
theorem pu_noPart : PuO tdNoPart fNoPart := .mk fun r e q => by cases e; exact q
theorem pu_part (ha : PuE ta fa) : PuO (tdPart ta) (fPart fa) := .mk fun {S0 φ env S Q d} r e q => by
  unfold fPart at e
  split at e
  · cases e; rename_i h; exact p_part (ha.go r h (p_partI q))
  · cases e
def slF (lo hi : Option Int) : D → Option D
  | .tup ds => some (.tup (cutD ds lo hi))
  | .scr ds => some (.lst (cutD ds lo hi))
  | .lst ds => some (.lst (cutD ds lo hi))
  | .str z => if z.length ≤ LMX then some (.str (cutS z lo hi)) else none
  | _ => none
def fSl (fa : FE) (fl fh : FEnv → Option (Option Int)) : FE := fun φ => (fa φ).bind fun x => (fl φ).bind fun lo => (fh φ).bind fun hi => slF lo hi x
theorem slD_L {S : Sto} {x : D} {xs : List D} {lo hi : Option Int} (h : getL S x = some xs) : slD lo hi S x = some (True, .lst (cutD xs lo hi)) := by
  cases x <;> simp [getL] at h <;> unfold slD <;> simp_all [getL]
theorem pu_sl {tl th : TOD} {fl fh : FEnv → Option (Option Int)} (ha : PuB ta fa) (hl : PuO tl fl) (hh : PuO th fh) : PuE (tdSl ta tl th) (fSl fa fl fh) := .mk fun {S0 φ env S Q d} r e q => by
  obtain ⟨x, e1, e⟩ := obind e
  obtain ⟨lo, e2, e⟩ := obind e
  obtain ⟨hi, e3, e⟩ := obind e
  refine p_sl (ha.go r e1 fun x' hx => hl.go r e2 (hh.go r e3 ?_))
  unfold slF at e
  split at e
  · cases e; rw [hx.tup]; exact p_onE rfl trivial q
  · cases e; rw [hx.scr]; exact p_onE rfl trivial q
  · cases e; exact p_onE (slD_L hx.lst) trivial q
  · split at e
    · cases e; rw [hx.str]; exact p_onE rfl (lmx (by assumption)) q
    · cases e
  · cases e
/-! ### tables of the module, dicts -/
def fKIn (neg : Bool) (tbl : List (Str × D)) (fa : FE) : FE := fun φ => match fa φ with
  | some (.str z) => some (.bl (if neg then !(tbl.lookup z).isSome else (tbl.lookup z).isSome))
  | _ => none
theorem pu_kin {neg : Bool} {tbl : List (Str × D)} (ha : PuE ta fa) : PuE (tdKIn neg tbl ta) (fKIn neg tbl fa) := .mk fun {S0 φ env S Q d} r e q => by
  unfold fKIn at e
  split at e
  · cases e; rename_i h; exact p_kin (ha.go r h q)
  · cases e
def fKGet (tbl : List (Str × D)) (fa : FE) : FE := fun φ => match fa φ with
  | some (.str z) => tbl.lookup z
  | _ => none
theorem pu_kget {tbl : List (Str × D)} (ha : PuE ta fa) : PuE (tdKGet tbl ta) (fKGet tbl fa) := .mk fun {S0 φ env S Q d} r e q => by
  unfold fKGet at e
  split at e
  · rename_i h; exact p_kget (ha.go r h (p_kgetS e q))
  · cases e
def get2F : D → D → D → Option D
  | .dct ks vs, k, z => if isK1 k = true then some ((lookD ks vs k).getD z) else none
  | _, _, _ => none
def fGet2 (fo fa fb : FE) : FE := fun φ => (fo φ).bind fun x => (fa φ).bind fun k => (fb φ).bind fun z => get2F x k z
theorem pu_get2 (ho : PuB to fo) (ha : PuE ta fa) (hb : PuE tb fb) : PuE (tdGet2 to ta tb) (fGet2 fo fa fb) := .mk fun {S0 φ env S Q d} r e q => by
  obtain ⟨x, e1, e⟩ := obind e
  obtain ⟨k, e2, e⟩ := obind e
  obtain ⟨z, e3, e⟩ := obind e
  unfold get2F at e
  split at e
  · split at e
    · rename_i h
      cases e
      refine p_get2 (ho.go r e1 fun x' hx => p_getI (by rw [hx.dct]; rfl) (ha.go r e2 (hb.go r e3 ?_)))
      unfold pGet2
      rw [hx.dct]
      exact ⟨h, q⟩
    · cases e
  · cases e
def fDisp (xs : List Str) (fa : FA) : FE := fun φ => (fa φ).bind fun ds => if ds.length = xs.length then some (.dct (xs.map D.str) ds) else none
theorem pu_disp {xs : List Str} (ha : PuA tA FA') : PuE (tdDisp xs tA) (fDisp xs FA') := .mk fun {S0 φ env S Q d} r e q => by
  obtain ⟨ds, e1, e⟩ := obind e
  split at e
  · cases e
    exact p_disp fun p hp => ha.go (r.fresh hp) e1 (p_dispE hp (by assumption) q)
  · cases e
/-! ### what is walked -/
def fSeqI (f : FE) : FA := fun φ => (f φ).bind seqV
theorem pu_seqI (ha : PuE ta fa) : PuI (tdSeqI ta) (fSeqI fa) := .mk fun {S0 φ env S Q d} r e q => by
  obtain ⟨x, e1, e⟩ := obind e
  refine p_seqI (ha.go r e1 ?_)
  unfold pSeqV
  rw [e]
  exact q
def rngB (j : Int) : Bool := decide (-(2 ^ 62) ≤ j) && decide (j < 2 ^ 62)
theorem rngB_ok {j : Int} (h : rngB j = true) : rng1 j := by
  unfold rngB at h
  rw [Bool.and_eq_true, decide_eq_true_iff, decide_eq_true_iff] at h
  exact h
def rngF1 : List D → Option (List D)
  | [.int j] => if rngB j = true then some (upto 0 j.toNat) else none
  | _ => none
def fRng1 (fa : FA) : FA := fun φ => (fa φ).bind rngF1
theorem pu_rng1 (ha : PuA tA FA') : PuI (tdRng1 tA) (fRng1 FA') := .mk fun {S0 φ env S Q d} r e q => by
  obtain ⟨x, e1, e⟩ := obind e
  unfold rngF1 at e
  split at e
  · split at e
    · cases e; exact p_rng1 (ha.go r e1 ⟨rngB_ok (by assumption), q⟩)
    · cases e
  · cases e
def rngF2 : List D → Option (List D)
  | [.int i, .int j] => if rngB i = true ∧ rngB j = true then some (upto i (j - i).toNat) else none
  | _ => none
def fRng2 (fa : FA) : FA := fun φ => (fa φ).bind rngF2
theorem pu_rng2 (ha : PuA tA FA') : PuI (tdRng2 tA) (fRng2 FA') := .mk fun {S0 φ env S Q d} r e q => by
  obtain ⟨x, e1, e⟩ := obind e
  unfold rngF2 at e
  split at e
  · split at e
    · rename_i h
      cases e
      unfold tdRng2
      exact ha.go r e1 ⟨⟨rngB_ok h.1, rngB_ok h.2⟩, q⟩
    · cases e
  · cases e
def zipF : List D → Option (List D)
  | [.lst xs, .lst ys] => some (zipT xs ys)
  | [.tup xs, .tup ys] => some (zipT xs ys)
  | _ => none
def fZip (fa : FA) : FA := fun φ => (fa φ).bind zipF
theorem pu_zip (ha : PuA tA FA') : PuI (tdZip tA) (fZip FA') := .mk fun {S0 φ env S Q d} r e q => by
  obtain ⟨x, e1, e⟩ := obind e
  unfold zipF at e
  split at e
  · cases e; exact ha.go r e1 q
  · cases e; exact ha.go r e1 q
  · cases e
def enumF : List D → Option (List D)
  | [.lst xs] => some (enumT 0 xs)
  | _ => none
def fEnum (fa : FA) : FA := fun φ => (fa φ).bind enumF
theorem pu_enum (ha : PuA tA FA') : PuI (tdEnum tA) (fEnum FA') := .mk fun {S0 φ env S Q d} r e q => by
  obtain ⟨x, e1, e⟩ := obind e
  unfold enumF at e
  split at e
  · cases e; exact ha.go r e1 q
  · cases e
/-! ### comprehensions -/
def fYes : FT := fun _ => some true
theorem pu_yes : PuT tdYes fYes := .mk fun r e q => by cases e; exact q
def fLcGo (p : TPat) (c : FT) (f : FE) (φ : FEnv) : List D → Option (List D)
  | [] => some []
  | d :: r => (bindF p d φ).bind fun φ' => (c φ').bind fun b => if b = true then (f φ').bind fun y => (fLcGo p c f φ r).bind fun ys => some (y :: ys) else fLcGo p c f φ r
theorem pu_lcGo {p : TPat} {tt : TTD} {c : FT} {S0 S : Sto} {φ : FEnv} {env : Env'} {q : Addr} {QL : List D → Sto → Prop} (hc : PuT tt c) (he : PuE te fa) (hq : S q = none) (r : Rel S0 φ env S) :
    ∀ (ds acc out : List D), fLcGo p c fa φ ds = some out → acc.length + ds.length < LMX → QL (acc ++ out) S → tdLcGo q (lcStep p tt te env) ds acc (sup S q (.lst acc)) QL
  | [], acc, out, e, hl, h => by
    unfold fLcGo at e; cases e
    rw [List.append_nil] at h
    exact ⟨sup_same, by rw [sdel_sup hq]; exact h⟩
  | d :: rs, acc, out, e, hl, h => by
    unfold fLcGo at e
    obtain ⟨φ', e1, e⟩ := obind e
    obtain ⟨b, e2, e⟩ := obind e
    have r1 : Rel S0 φ env (sup S q (.lst acc)) := r.fresh hq
    obtain ⟨env', h1, r2⟩ := r1.bind e1
    refine ⟨sup_same, lc_step h1 (hc.go r2 e2 ?_)⟩
    rw [List.length_cons] at hl
    cases b
    · rw [if_neg Bool.false_ne_true] at e ⊢
      exact ⟨sup_same, pu_lcGo hc he hq r rs acc out e (by omega) h⟩
    · rw [if_pos rfl] at e ⊢
      obtain ⟨y, e3, e⟩ := obind e
      obtain ⟨ys, e4, e⟩ := obind e
      cases e
      refine he.go r2 e3 ⟨sup_same, ?_, ?_⟩
      · rw [sizeLine_eq]; have : acc.length < LMX := by omega
        exact this
      · have hs : sup (sup S q (.lst acc)) q (.lst (acc ++ [y])) = sup S q (.lst (acc ++ [y])) := by
          funext b
          by_cases hb : b = q
          · subst hb; rw [sup_same, sup_same]
          · rw [sup_ne hb, sup_ne hb, sup_ne hb]
        rw [hs]
        exact pu_lcGo hc he hq r rs (acc ++ [y]) ys e4 (by simp; omega) (by simpa using h)
def fLc (w : FA) (p : TPat) (c : FT) (f : FE) (own : List Nat) : FE := fun φ => (w φ).bind fun ds => if ds.length < LMX then (fLcGo p c f (wipeF φ own) ds).map .lst else none
theorem pu_lc {w : TID} {p : TPat} {tt : TTD} {c : FT} {own : List Nat} (hw : PuI w FA') (hc : PuT tt c) (he : PuE te fa) : PuE (tdLc w p tt te own) (fLc FA' p c fa own) := .mk fun {S0 φ env S Q d} r e q => by
  obtain ⟨ds, e1, e⟩ := obind e
  split at e
  · obtain ⟨out, e2, e⟩ := Option.map_eq_some_iff.mp e
    subst e
    refine p_lc (hw.go r e1 fun a ha => ?_)
    exact pu_lcGo hc he ha (r.wipe own) ds [] out e2 (by simpa) q
  · cases e
end
end PL

namespace PL
open PySem PySem.Spec PyProof.Rows L2

/-! ### statements as functions of the frame -/
inductive Flow where | nx (φ : FEnv) | rt (d : D) | bk (φ : FEnv) | ct (φ : FEnv)
abbrev FS := FEnv → Option Flow
def Out (S0 : Sto) (De : EndsD) : Flow → Prop
  | .nx φ => ∀ env S, Rel S0 φ env S → De.nx env S
  | .rt d => ∀ S, (∀ a o, S0 a = some o → S a = some o) → De.rt d S
  | .bk φ => ∀ env S, Rel S0 φ env S → De.bk env S
  | .ct φ => ∀ env S, Rel S0 φ env S → De.ct env S
structure PuS (st : TSD) (g : FS) : Prop where
  go : ∀ {S0 : Sto} {φ : FEnv} {env : Env'} {S : Sto} {nx bk ct : Env' → Sto → Prop} {rt : QD} {w : Flow}, Rel S0 φ env S → g φ = some w → Out S0 ⟨nx, rt, bk, ct⟩ w → st ⟨nx, rt, bk, ct⟩ env S
section
variable {t ta tb te tf to : TED} {fa fb fc fo : FE} {tc tu : TTD} {gc gu : FT} {tA tK : TAD} {FA' FK : FA} {st su : TSD} {g h : FS} {p : TPat}
def fNext : FS := fun φ => some (.nx φ)
theorem pu_next : PuS tdNext fNext := .mk fun r e o => by cases e; exact p_next (o _ _ r)
def Flow.go (w : Flow) (h : FS) : Option Flow := match w with
  | .nx φ => h φ
  | .rt d => some (.rt d)
  | .bk φ => some (.bk φ)
  | .ct φ => some (.ct φ)
def fSeq (g h : FS) : FS := fun φ => (g φ).bind fun w => w.go h
theorem pu_seq (h1 : PuS st g) (h2 : PuS su h) : PuS (tdSeq st su) (fSeq g h) := .mk fun {S0 φ env S nx bk ct rt w} r e o => by
  obtain ⟨w1, e1, e⟩ := obind e
  refine p_seq (h1.go r e1 ?_)
  cases w1 with
  | nx φ1 => exact fun env1 S1 r1 => h2.go r1 e o
  | rt d => cases e; exact o
  | bk φ1 => cases e; exact o
  | ct φ1 => cases e; exact o
def fBreak : FS := fun φ => some (.bk φ)
def fCont : FS := fun φ => some (.ct φ)
theorem pu_break : PuS tdBreak fBreak := .mk fun r e o => by cases e; exact p_break (o _ _ r)
theorem pu_cont : PuS tdCont fCont := .mk fun r e o => by cases e; exact p_cont (o _ _ r)
def fRet (f : FE) : FS := fun φ => (f φ).map .rt
theorem pu_ret (ha : PuE ta fa) : PuS (tdRet ta) (fRet fa) := .mk fun {S0 φ env S nx bk ct rt w} r e o => by
  obtain ⟨d, e1, e⟩ := Option.map_eq_some_iff.mp e
  subst e
  exact p_ret (ha.go r e1 (o S r.base))
def fRetN : FS := fun _ => some (.rt .non)
theorem pu_retN : PuS tdRetN fRetN := .mk fun r e o => by cases e; exact p_retN (o _ r.base)
def fDrop (f : FE) : FS := fun φ => (f φ).map fun _ => .nx φ
theorem pu_drop (ha : PuE ta fa) : PuS (tdDrop ta) (fDrop fa) := .mk fun {S0 φ env S nx bk ct rt w} r e o => by
  obtain ⟨d, e1, e⟩ := Option.map_eq_some_iff.mp e
  subst e
  exact p_drop (ha.go r e1 (o _ _ r))
def fIfS (c : FT) (g h : FS) : FS := fun φ => (c φ).bind fun b => if b = true then g φ else h φ
theorem pu_ifS (hc : PuT tc gc) (h1 : PuS st g) (h2 : PuS su h) : PuS (tdIfS tc st su) (fIfS gc g h) := .mk fun {S0 φ env S nx bk ct rt w} r e o => by
  obtain ⟨b, e1, e⟩ := obind e
  refine p_ifS (hc.go r e1 ?_)
  cases b
  · exact h2.go r e o
  · exact h1.go r e o
def fAsg (f : FE) (p : TPat) : FS := fun φ => (f φ).bind fun d => (bindF p d φ).map .nx
theorem pu_asg (ha : PuE ta fa) : PuS (tdAsg ta p) (fAsg fa p) := .mk fun {S0 φ env S nx bk ct rt w} r e o => by
  obtain ⟨d, e1, e⟩ := obind e
  obtain ⟨φ', e2, e⟩ := Option.map_eq_some_iff.mp e
  subst e
  refine p_asg' (ha.go r e1 ?_)
  obtain ⟨env', h1, r2⟩ := r.bind e2
  rw [h1]
  exact o _ _ r2
/-! ### new objects that a slot holds -/
structure PuN (t : TED) (f : FEnv → Option MO) : Prop where
  go : ∀ {S0 : Sto} {φ : FEnv} {env : Env'} {S : Sto} {Q : QD} {o : MO}, Rel S0 φ env S → f φ = some o → (∀ p, S p = none → Q (.ref p) (sup S p o)) → t env S Q
def fNewL (fa : FA) : FEnv → Option MO := fun φ => (fa φ).bind fun ds => if ds.length ≤ LMX then some (.lst ds) else none
theorem pu_newL (ha : PuA tA FA') : PuN (tdLstR tA) (fNewL FA') := .mk fun {S0 φ env S Q o} r e q => by
  obtain ⟨x, e1, e⟩ := obind e
  split at e
  · cases e; exact p_lstR (ha.go r e1 ⟨lmx (by assumption), q⟩)
  · cases e
def newAddF : D → D → Option MO := fun x y => match x, y with
  | .lst xs, .lst ys => if xs.length + ys.length ≤ LMX then some (.lst (xs ++ ys)) else none
  | _, _ => none
def fNewAdd (fa fb : FE) : FEnv → Option MO := fun φ => (fa φ).bind fun x => (fb φ).bind fun y => newAddF x y
theorem pu_newAdd (ha : PuB ta fa) (hb : PuB tb fb) : PuN (tdOp rdAddR ta tb) (fNewAdd fa fb) := .mk fun {S0 φ env S Q o} r e q => by
  obtain ⟨x, e1, e⟩ := obind e
  obtain ⟨y, e2, e⟩ := obind e
  refine p_op (ha.go r e1 fun x' hx => hb.go r e2 fun y' hy => ?_)
  unfold newAddF at e
  split at e
  · split at e
    · cases e; exact p_addR hx.lst hy.lst (lmx (by assumption)) q
    · cases e
  · cases e
def fNewList (fa : FE) : FEnv → Option MO := fun φ => (fa φ).bind fun x => (seqF x).map .lst
theorem pu_newList (ha : PuB ta fa) : PuN (tdCB rdListR (tdCons ta tdNil)) (fNewList fa) := .mk fun {S0 φ env S Q o} r e q => by
  obtain ⟨x, e1, e⟩ := obind e
  obtain ⟨xs, e2, e⟩ := Option.map_eq_some_iff.mp e
  subst e
  refine p_cb (p_cons (ha.go r e1 fun x' hx => p_nil ?_))
  unfold rdListR
  simp only [hx.seqF e2]
  exact q
def fAsgN (f : FEnv → Option MO) (i : Nat) : FS := fun φ => (f φ).map fun o => .nx (φ.set i (some (.own o)))
theorem pu_asgN {f : FEnv → Option MO} {i : Nat} (ha : PuN ta f) : PuS (tdAsg ta (.nm i)) (fAsgN f i) := .mk fun {S0 φ env S nx bk ct rt w} r e o => by
  obtain ⟨d, e1, e⟩ := Option.map_eq_some_iff.mp e
  subst e
  refine p_asg' (ha.go r e1 fun q hq => ?_)
  exact o _ _ ((r.fresh hq).setO i sup_same (r.none0 hq) (r.free hq))
/-! ### several at once -/
inductive NewL (S0 : Sto) (φ : FEnv) (env : Env') (S : Sto) : List SV → List D → List Addr → Prop where
  | nil : NewL S0 φ env S [] [] []
  | val {d : D} {vs : List SV} {ds : List D} {ps : List Addr} (t : NewL S0 φ env S vs ds ps) : NewL S0 φ env S (.val d :: vs) (d :: ds) ps
  | own {p : Addr} {o : MO} {vs : List SV} {ds : List D} {ps : List Addr} (h : S p = some o) (h0 : S0 p = none) (hf : Free φ env p) (n : p ∉ ps) (t : NewL S0 φ env S vs ds ps) : NewL S0 φ env S (.own o :: vs) (.ref p :: ds) (p :: ps)
abbrev FV := FEnv → Option (List SV)
structure PuV (t : TAD) (f : FV) : Prop where
  go : ∀ {S0 : Sto} {φ : FEnv} {env : Env'} {S : Sto} {Q : List D → Sto → Prop} {vs : List SV}, Rel S0 φ env S → f φ = some vs →
  (∀ S' ds ps, Rel S0 φ env S' → (∀ a o, S a = some o → S' a = some o) → (∀ a ∈ ps, S a = none) → NewL S0 φ env S' vs ds ps → Q ds S') → t env S Q
def fVNil : FV := fun _ => some []
def fVVal (f : FE) (r : FV) : FV := fun φ => (f φ).bind fun x => (r φ).bind fun xs => some (.val x :: xs)
def fVOwn (f : FEnv → Option MO) (r : FV) : FV := fun φ => (f φ).bind fun x => (r φ).bind fun xs => some (.own x :: xs)
theorem pu_vnil : PuV tdNil fVNil := .mk fun r e q => by cases e; exact q _ _ [] r (fun _ _ h => h) (by simp) .nil
theorem pu_vval {fr : FV} (ha : PuE ta fa) (hr : PuV tA fr) : PuV (tdCons ta tA) (fVVal fa fr) := .mk fun {S0 φ env S Q vs} r e q => by
  obtain ⟨x, e1, e⟩ := obind e
  obtain ⟨y, e2, e⟩ := obind e
  cases e
  exact p_cons (ha.go r e1 (hr.go r e2 fun S' ds ps r' k hp n => q S' _ ps r' k hp (.val n)))
theorem pu_vown {fn : FEnv → Option MO} {fr : FV} (ha : PuN ta fn) (hr : PuV tA fr) : PuV (tdCons ta tA) (fVOwn fn fr) := .mk fun {S0 φ env S Q vs} r e q => by
  obtain ⟨x, e1, e⟩ := obind e
  obtain ⟨y, e2, e⟩ := obind e
  cases e
  refine p_cons (ha.go r e1 fun a hp0 => hr.go (r.fresh hp0) e2 fun S' ds ps r' k hp n => ?_)
  have hk : ∀ b o, S b = some o → S' b = some o := fun b o hb => k b o (by rw [sup_ne (fun e => by subst e; rw [hp0] at hb; cases hb)]; exact hb)
  refine q S' _ (a :: ps) r' hk (fun b hb => ?_) (.own (k a _ sup_same) (r.none0 hp0) (r.free hp0) (fun hm => ?_) n)
  · rcases List.mem_cons.mp hb with rfl | hb
    · exact hp0
    · have := hp b hb
      cases h : S b with
      | none => rfl
      | some o =>
        by_cases hba : b = a
        · subst hba; rw [hp0] at h; cases h
        · rw [sup_ne hba, h] at this; cases this
  · have := hp a hm
    rw [sup_same] at this; cases this
def setsF : List Nat → List SV → FEnv → FEnv
  | i :: is, v :: vs, φ => setsF is vs (φ.set i (some v))
  | _, _, φ => φ
theorem newL_len {S0 S : Sto} {φ : FEnv} {env : Env'} : ∀ {vs : List SV} {ds : List D} {ps : List Addr}, NewL S0 φ env S vs ds ps → vs.length = ds.length
  | _, _, _, .nil => rfl
  | _, _, _, .val t => congrArg (· + 1) (newL_len t)
  | _, _, _, .own _ _ _ _ t => congrArg (· + 1) (newL_len t)
theorem newL_setV {S0 S : Sto} {φ : FEnv} {env : Env'} {i : Nat} {d : D} (hl : env.length = φ.length) : ∀ {vs : List SV} {ds : List D} {ps : List Addr}, NewL S0 φ env S vs ds ps → NewL S0 (φ.set i (some (.val d))) (env.set i (some d)) S vs ds ps
  | _, _, _, .nil => .nil
  | _, _, _, .val t => .val (newL_setV hl t)
  | _, _, _, .own h h0 hf n t => .own h h0 (fun j o e => by
      rcases set_get e with ⟨rfl, _, e⟩ | ⟨e', e⟩
      · cases e
      · rw [List.getElem?_set_ne e']; exact hf j o e) n (newL_setV hl t)
theorem newL_setO {S0 S : Sto} {φ : FEnv} {env : Env'} {i : Nat} {p : Addr} {o : MO} (hl : env.length = φ.length) : ∀ {vs : List SV} {ds : List D} {ps : List Addr}, p ∉ ps → NewL S0 φ env S vs ds ps → NewL S0 (φ.set i (some (.own o))) (env.set i (some (.ref p))) S vs ds ps
  | _, _, _, _, .nil => .nil
  | _, _, _, hp, .val t => .val (newL_setO hl hp t)
  | _, _, _, hp, .own h h0 hf n t => .own h h0 (fun j o e => by
      rcases set_get e with ⟨rfl, hlt, e⟩ | ⟨e', e⟩
      · rw [List.getElem?_set_self (by rw [hl]; exact hlt)]
        intro h2; cases h2; exact hp (by simp)
      · rw [List.getElem?_set_ne e']; exact hf j o e) n (newL_setO hl (fun h => hp (by simp [h])) t)
theorem fold_rel {S0 S : Sto} : ∀ (is : List Nat) (vs : List SV) (ds : List D) (ps : List Addr) (φ : FEnv) (env : Env'), Rel S0 φ env S → NewL S0 φ env S vs ds ps → Rel S0 (setsF is vs φ) ((is.zip ds).foldl (fun e p => e.set p.1 (some p.2)) env) S
  | [], _, _, _, φ, env, r, n => by unfold setsF; exact r
  | i :: is, [], _, _, φ, env, r, .nil => by unfold setsF; exact r
  | i :: is, _, _, _, φ, env, r, .val (d := d) t => by
    unfold setsF
    exact fold_rel is _ _ _ _ _ (r.setV i d) (newL_setV r.len t)
  | i :: is, _, _, _, φ, env, r, .own h h0 hf n t => by
    unfold setsF
    exact fold_rel is _ _ _ _ _ (r.setO i h h0 hf) (newL_setO r.len n t)
def fPar (is : List Nat) (f : FV) : FS := fun φ => (f φ).bind fun vs => if vs.length = is.length then some (.nx (setsF is vs φ)) else none
theorem pu_par {is : List Nat} {f : FV} (ha : PuV tA f) : PuS (tdPar is tA) (fPar is f) := .mk fun {S0 φ env S nx bk ct rt w} r e o => by
  obtain ⟨vs, e1, e⟩ := obind e
  split at e
  · rename_i hl
    cases e
    refine p_par (ha.go r e1 fun S' ds ps r' k hp n => ⟨by rw [← newL_len n]; exact hl, ?_⟩)
    exact o _ _ (fold_rel is vs ds ps φ env r' n)
  · cases e
/-! ### changes of an object that a slot holds -/
def ownAt (φ : FEnv) (i : Nat) : Option (List D) := match φ[i]? with
  | some (some (.own (.lst xs))) => some xs
  | _ => none
theorem ownAt_some {φ : FEnv} {i : Nat} {xs : List D} (e : ownAt φ i = some xs) : φ[i]? = some (some (SV.own (.lst xs))) := by
  unfold ownAt at e
  split at e
  · cases e; assumption
  · cases e
def fAppend (i : Nat) (f : FE) : FS := fun φ => (f φ).bind fun d => (ownAt φ i).bind fun xs => if xs.length < LMX then some (.nx (φ.set i (some (.own (.lst (xs ++ [d])))))) else none
theorem pu_append {i : Nat} (ha : PuE ta fa) : PuS (tdDrop (tdLm gAppend (tdVar i) (tdCons ta tdNil))) (fAppend i fa) := .mk fun {S0 φ env S nx bk ct rt w} r e o => by
  obtain ⟨d, e1, e⟩ := obind e
  obtain ⟨xs, e2, e⟩ := obind e
  split at e
  · rename_i hl
    cases e
    have h := ownAt_some e2
    obtain ⟨a, h1, h2, h3⟩ := r.own _ _ h
    refine p_drop (p_lm (p_var h1 (p_lmO h2 (p_cons (ha.go r e1 (p_nil ?_))))))
    refine p_lmE h2 rfl (by rw [sizeLine_eq]; exact hl) ?_
    exact o _ _ (r.upd h h1)
  · cases e
def extF (xs : List D) : D → Option (List D)
  | .lst ys => if xs.length + ys.length ≤ LMX then some (xs ++ ys) else none
  | _ => none
def fExtend (i : Nat) (f : FE) : FS := fun φ => (f φ).bind fun d => (ownAt φ i).bind fun xs => (extF xs d).map fun zs => .nx (φ.set i (some (.own (.lst zs))))
theorem pu_extend {i : Nat} (ha : PuB ta fa) : PuS (tdDrop (tdLm gExtend (tdVar i) (tdCons ta tdNil))) (fExtend i fa) := .mk fun {S0 φ env S nx bk ct rt w} r e o => by
  obtain ⟨d, e1, e⟩ := obind e
  obtain ⟨xs, e2, e⟩ := obind e
  obtain ⟨zs, e3, e⟩ := Option.map_eq_some_iff.mp e
  subst e
  have h := ownAt_some e2
  obtain ⟨a, h1, h2, h3⟩ := r.own _ _ h
  refine p_drop (p_lm (p_var h1 (p_lmO h2 (p_cons (ha.go r e1 fun d' hd => p_nil ?_)))))
  unfold extF at e3
  split at e3
  · split at e3
    · rename_i hl
      cases e3
      refine p_lmE h2 (cc := _) (d := .non) (by show (match getL S d' with | some es => _ | none => none) = _; rw [hd.lst]) (lmx hl) ?_
      exact o _ _ (r.upd h h1)
    · cases e3
  · cases e3
/-- x = xs.pop() -/
def fPopTo (i : Nat) (p : TPat) : FS := fun φ => (ownAt φ i).bind fun xs => (xs[xs.length - 1]?).bind fun d => (bindF p d (φ.set i (some (.own (.lst xs.dropLast))))).map .nx
theorem pu_popTo {i : Nat} : PuS (tdAsg (tdLm gPop (tdVar i) tdNil) p) (fPopTo i p) := .mk fun {S0 φ env S nx bk ct rt w} r e o => by
  obtain ⟨xs, e2, e⟩ := obind e
  obtain ⟨d, e3, e⟩ := obind e
  obtain ⟨φ', e4, e⟩ := Option.map_eq_some_iff.mp e
  subst e
  have h := ownAt_some e2
  obtain ⟨a, h1, h2, h3⟩ := r.own _ _ h
  refine p_asg' (p_lm (p_var h1 (p_lmO h2 (p_nil ?_))))
  refine p_lmE (cc := True) (d := d) h2 (by show (match xs[xs.length - 1]? with | some d => _ | none => none) = _; rw [e3]) trivial ?_
  obtain ⟨env', h4, r2⟩ := (r.upd (o' := .lst xs.dropLast) h h1).bind e4
  rw [h4]
  exact o _ _ r2
def fPopDrop (i : Nat) : FS := fun φ => (ownAt φ i).bind fun xs => (xs[xs.length - 1]?).map fun _ => .nx (φ.set i (some (.own (.lst xs.dropLast))))
theorem pu_popDrop {i : Nat} : PuS (tdDrop (tdLm gPop (tdVar i) tdNil)) (fPopDrop i) := .mk fun {S0 φ env S nx bk ct rt w} r e o => by
  obtain ⟨xs, e2, e⟩ := obind e
  obtain ⟨d, e3, e⟩ := Option.map_eq_some_iff.mp e
  subst e
  have h := ownAt_some e2
  obtain ⟨a, h1, h2, h3⟩ := r.own _ _ h
  refine p_drop (p_lm (p_var h1 (p_lmO h2 (p_nil ?_))))
  refine p_lmE (cc := True) (d := d) h2 (by show (match xs[xs.length - 1]? with | some d => _ | none => none) = _; rw [e3]) trivial ?_
  exact o _ _ (r.upd h h1)
def fSetI (i : Nat) (f fk : FE) : FS := fun φ => (f φ).bind fun d => (fk φ).bind fun k => (ownAt φ i).bind fun xs => match k with
  | .int k => (ixN xs.length k).map fun j => .nx (φ.set i (some (.own (.lst (xs.set j d)))))
  | _ => none
theorem pu_setI {i : Nat} (ha : PuE ta fa) (hb : PuE tb fb) : PuS (tdSetI ta (tdVar i) tb) (fSetI i fa fb) := .mk fun {S0 φ env S nx bk ct rt w} r e o => by
  obtain ⟨d, e1, e⟩ := obind e
  obtain ⟨k, e2, e⟩ := obind e
  obtain ⟨xs, e3, e⟩ := obind e
  split at e
  · obtain ⟨j, e4, e⟩ := Option.map_eq_some_iff.mp e
    subst e
    have h := ownAt_some e3
    obtain ⟨a, h1, h2, h3⟩ := r.own _ _ h
    refine p_setI (ha.go r e1 (p_var h1 (hb.go r e2 (p_set h2 e4 ?_))))
    exact o _ _ (r.upd h h1)
  · cases e
def fFreeze (i : Nat) (g : FS) : FS := fun φ => (ownAt φ i).bind fun xs => g (φ.set i (some (.val (.lst xs))))
theorem pu_freeze {i : Nat} (h1 : PuS st g) : PuS (tdFreeze i st) (fFreeze i g) := .mk fun {S0 φ env S nx bk ct rt w} r e o => by
  obtain ⟨xs, e1, e⟩ := obind e
  have h := ownAt_some e1
  obtain ⟨a, h2, h3, h4⟩ := r.own _ _ h
  exact p_freeze h2 h3 (h1.go (r.freeze h h2) e o)
def fAug (i : Nat) (gf : D → D → Option D) (f : FE) : FS := fun φ => (fVar i φ).bind fun x => (f φ).bind fun y => (gf x y).map fun z => .nx (φ.set i (some (.val z)))
theorem pu_aug {i : Nat} {gD : Sto → D → D → PR} {gf : D → D → Option D} (hr : RespB gD gf) (ha : PuE ta fa) : PuS (tdAug i ta gD) (fAug i gf fa) := .mk fun {S0 φ env S nx bk ct rt w} r e o => by
  obtain ⟨x, e1, e⟩ := obind e
  obtain ⟨y, e2, e⟩ := obind e
  obtain ⟨z, e3, e⟩ := Option.map_eq_some_iff.mp e
  subst e
  have hx : env[i]? = some (some x) := by
    unfold fVar at e1
    split at e1
    · cases e1; rename_i h; exact r.val _ _ h
    · cases e1
  unfold tdAug
  rw [hx]
  refine ha.go r e2 ?_
  obtain ⟨c, e4, hc⟩ := hr .rfl .rfl e3
  exact p_r e4 hc (o _ _ (r.setV i z))
abbrev iaddF := intF (fun _ _ => true) fun i j => .int (i + j)
theorem resp_iadd : RespB iaddD iaddF := resp_int fun _ _ _ => trivial
/-- slots that nobody reads any more -/
def fClr (is : List Nat) (g : FS) : FS := fun φ => g (clrF φ is)
theorem pu_clr {is : List Nat} (h1 : PuS st g) : PuS st (fClr is g) := .mk fun r e o => h1.go (r.clrs is) e o
/-- .. behind a statement -/
def fClrB (is : List Nat) (g : FS) : FS := fun φ => (g φ).map fun w => match w with
  | .nx φ => .nx (clrF φ is)
  | .ct φ => .ct (clrF φ is)
  | .bk φ => .bk (clrF φ is)
  | .rt d => .rt d
theorem pu_clrB {is : List Nat} (h1 : PuS st g) : PuS st (fClrB is g) := .mk fun {S0 φ env S nx bk ct rt w} r e o => by
  obtain ⟨w1, e1, e⟩ := Option.map_eq_some_iff.mp e
  subst e
  refine h1.go r e1 ?_
  cases w1 with
  | nx φ1 => exact fun env1 S1 r1 => o _ _ (r1.clrs is)
  | rt d => exact o
  | bk φ1 => exact fun env1 S1 r1 => o _ _ (r1.clrs is)
  | ct φ1 => exact fun env1 S1 r1 => o _ _ (r1.clrs is)
/-! ### loops -/
def fForGo (p : TPat) (g : FS) : List D → FS
  | [], φ => some (.nx φ)
  | d :: r, φ => (bindF p d φ).bind fun φ' => (g φ').bind fun w => match w with
    | .nx φ2 => fForGo p g r φ2
    | .ct φ2 => fForGo p g r φ2
    | .bk φ2 => some (.nx φ2)
    | .rt d => some (.rt d)
theorem pu_forGo (hg : PuS st g) {S0 : Sto} {nx bk ct : Env' → Sto → Prop} {rt : QD} : ∀ (ds : List D) {φ : FEnv} {env : Env'} {S : Sto} {w : Flow}, Rel S0 φ env S → fForGo p g ds φ = some w → Out S0 ⟨nx, rt, bk, ct⟩ w → forD p st ds ⟨nx, rt, bk, ct⟩ env S
  | [], φ, env, S, w, r, e, o => by
    unfold fForGo at e; cases e
    exact o _ _ r
  | d :: rs, φ, env, S, w, r, e, o => by
    unfold fForGo at e
    obtain ⟨φ', e1, e⟩ := obind e
    obtain ⟨w1, e2, e⟩ := obind e
    obtain ⟨env', h1, r1⟩ := r.bind e1
    unfold forD
    rw [h1]
    refine hg.go r1 e2 ?_
    cases w1 with
    | nx φ2 => exact fun env2 S2 r2 => pu_forGo hg rs r2 e o
    | ct φ2 => exact fun env2 S2 r2 => pu_forGo hg rs r2 e o
    | bk φ2 => cases e; exact o
    | rt d => cases e; exact o
def fFor (w : FA) (p : TPat) (g : FS) : FS := fun φ => (w φ).bind fun ds => fForGo p g ds φ
theorem pu_for {w : TID} (hw : PuI w FA') (hg : PuS st g) : PuS (tdFor w p st) (fFor FA' p g) := .mk fun {S0 φ env S nx bk ct rt w} r e o => by
  obtain ⟨ds, e1, e⟩ := obind e
  exact p_for (hw.go r e1 (pu_forGo hg ds r e o))
def fWhile (c : FT) (g : FS) : Nat → FS
  | 0, _ => none
  | n + 1, φ => (c φ).bind fun b => if b = true then (g φ).bind fun w => match w with
      | .nx φ2 => fWhile c g n φ2
      | .ct φ2 => fWhile c g n φ2
      | .bk φ2 => some (.nx φ2)
      | .rt d => some (.rt d)
    else some (.nx φ)
theorem pu_while {n : Nat} (hc : PuT tc gc) (hg : PuS st g) : PuS (tdWhile tc st) (fWhile gc g n) := .mk fun {S0 φ env S nx bk ct rt w} r e o => by
  unfold tdWhile
  refine ⟨fun m env S => ∃ φ w, Rel S0 φ env S ∧ fWhile gc g m φ = some w ∧ Out S0 ⟨nx, rt, bk, ct⟩ w, ⟨n, φ, w, r, e, o⟩, ?_⟩
  rintro m env S ⟨φ, w, r, e, o⟩
  cases m with
  | zero => unfold fWhile at e; cases e
  | succ m =>
    unfold fWhile at e
    obtain ⟨b, e1, e⟩ := obind e
    refine hc.go r e1 ?_
    cases b
    · rw [if_neg Bool.false_ne_true] at e ⊢
      cases e
      exact o _ _ r
    · rw [if_pos rfl] at e ⊢
      obtain ⟨w1, e2, e⟩ := obind e
      refine hg.go r e2 ?_
      cases w1 with
      | nx φ2 => exact fun env2 S2 r2 => ⟨m, Nat.lt_succ_self m, φ2, w, r2, e, o⟩
      | ct φ2 => exact fun env2 S2 r2 => ⟨m, Nat.lt_succ_self m, φ2, w, r2, e, o⟩
      | bk φ2 => cases e; exact o
      | rt d => cases e; exact o
end
/-! ### a def whose own objects are left behind -/
def endsG (De : EndsD) : EndsD := { nx := fun e s => ∃ s', SLe s' s ∧ De.nx e s', rt := fun d s => ∃ s', SLe s' s ∧ De.rt d s', bk := fun e s => ∃ s', SLe s' s ∧ De.bk e s', ct := fun e s => ∃ s', SLe s' s ∧ De.ct e s' }
def tdG (t : TSD) : TSD := fun De env S => t (endsG De) env S
theorem endsG_mono {De De' : EndsD} (hle : EndsD.Le De De') : EndsD.Le (endsG De) (endsG De') where
  nx := fun e s ⟨s', l, q⟩ => ⟨s', l, hle.nx _ _ q⟩
  rt := fun e s ⟨s', l, q⟩ => ⟨s', l, hle.rt _ _ q⟩
  bk := fun e s ⟨s', l, q⟩ => ⟨s', l, hle.bk _ _ q⟩
  ct := fun e s ⟨s', l, q⟩ => ⟨s', l, hle.ct _ _ q⟩
theorem endsG_up {K : PySem.W.Frag} {S : Sto} {H : Hp} {a : EndsD} {b : Ends} (eu : EndsUp K S H a b) : EndsUp K S H (endsG a) b where
  nx := fun e s σ' H' r1 r2 r3 ⟨s', l, q⟩ => eu.nx e s' σ' H' (r1.ext l.ext) (l.rep r2) (r3.trans l.ext) q
  rt := fun d s v H' r1 r2 r3 ⟨s', l, q⟩ => eu.rt d s' v H' (r1.ext l.ext) (l.rep r2) (r3.trans l.ext) q
  bk := fun e s σ' H' r1 r2 r3 ⟨s', l, q⟩ => eu.bk e s' σ' H' (r1.ext l.ext) (l.rep r2) (r3.trans l.ext) q
  ct := fun e s σ' H' r1 r2 r3 ⟨s', l, q⟩ => eu.ct e s' σ' H' (r1.ext l.ext) (l.rep r2) (r3.trans l.ext) q
theorem dss_g {X : Cx} {sts : List Stmt} {t : TSD} (h : DSs X sts t) : DSs X sts (tdG t) where
  mono := fun De De' env S hle q => h.mono _ _ _ _ (endsG_mono hle) q
  run := pss_imp h.run fun D σ H ⟨env, S, he, hs, De, eu, q⟩ => ⟨env, S, he, hs, _, endsG_up eu, q⟩
def fnOf (n : Nat) (N : List Str) (g : FS) : List D → Option D := fun ds => if ds.length = n then match g (startF N ds) with
  | some (.rt d) => some d
  | some (.nx _) => some .non
  | _ => none
  else none
theorem pure_mk {n : Nat} {N : List Str} {r : TSD} {g : FS} (h : PuS r g) : Pure (mkSp n N (tdG r)) (fnOf n N g) := .mk fun {ds S Q d} e q => by
  unfold fnOf at e
  split at e
  · refine mkSp_of (by assumption) ?_
    unfold tdG
    split at e
    · rename_i e1
      cases e
      exact h.go rel_start e1 fun S' hb => ⟨S, fun a o h => hb a o h, q⟩
    · rename_i e1
      cases e
      exact h.go rel_start e1 fun env' S' hb => ⟨S, fun a o h => hb.base a o h, q⟩
    · cases e
  · cases e
theorem pure_dead : Pure spDead (fun _ => none) := .mk fun e _ => by cases e
end PL
namespace PL
def fDead : FS := fun _ => none
theorem pu_dead : PuS tdDead fDead := .mk fun _ e _ => by cases e
end PL

namespace PL
open PySem PySem.Spec PyProof.Rows L2

/-! ## what is drawn: a def that draws from a feed, as a tree of what may be drawn -/
inductive Gen (α : Type) where
  | ret (a : α)
  | draw (m : Int) (k : Int → Gen α)
  | fail
def Gen.bind {α β : Type} (g : Gen α) (f : α → Gen β) : Gen β := match g with
  | .ret a => f a
  | .draw m k => .draw m fun i => (k i).bind f
  | .fail => .fail
def Gen.of {α : Type} : Option α → Gen α
  | some a => .ret a
  | none => .fail
def Gen.map {α β : Type} (f : α → β) (g : Gen α) : Gen β := g.bind fun a => .ret (f a)
/-- how many draws there may be -/
abbrev DMX : Nat := 1000000000
def AllG {α : Type} : Gen α → Nat → (α → Nat → Prop) → Prop
  | .ret a, n, P => P a n
  | .draw m k, n, P => 0 < m ∧ m < 1073741824 ∧ n < DMX ∧ ∀ i, 0 ≤ i → i < m → AllG (k i) (n + 1) P
  | .fail, _, _ => False
theorem allG_mono {α : Type} : ∀ {g : Gen α} {n : Nat} {P P' : α → Nat → Prop}, (∀ a n, P a n → P' a n) → AllG g n P → AllG g n P'
  | .ret _, _, _, _, h, q => h _ _ q
  | .draw _ _, _, _, _, h, q => ⟨q.1, q.2.1, q.2.2.1, fun i a b => allG_mono h (q.2.2.2 i a b)⟩
theorem allG_bind {α β : Type} {f : α → Gen β} : ∀ {g : Gen α} {n : Nat} {P : β → Nat → Prop}, AllG (g.bind f) n P ↔ AllG g n fun a n' => AllG (f a) n' P
  | .ret _, _, _ => Iff.rfl
  | .fail, _, _ => Iff.rfl
  | .draw m k, n, P => by
    show (_ ∧ _ ∧ _ ∧ _) ↔ (_ ∧ _ ∧ _ ∧ _)
    exact and_congr_right fun _ => and_congr_right fun _ => and_congr_right fun _ => ⟨fun h i a b => allG_bind.mp (h i a b), fun h i a b => allG_bind.mpr (h i a b)⟩
theorem allG_of {α : Type} {o : Option α} {n : Nat} {P : α → Nat → Prop} (h : AllG (Gen.of o) n P) : ∃ a, o = some a ∧ P a n := by
  cases o with
  | none => exact h.elim
  | some a => exact ⟨a, rfl, h⟩
theorem allG_map {α β : Type} {f : α → β} {g : Gen α} {n : Nat} {P : β → Nat → Prop} (h : AllG (g.map f) n P) : AllG g n fun a n' => P (f a) n' := allG_bind.mp h
/-- a feed that stands in the store -/
structure Feed where
  y : Addr
  ok : Nat → Sto → Prop
  here : ∀ {n S}, ok n S → ∃ o, S y = some o
  loc : ∀ {n S S'}, ok n S → S' y = S y → ok n S'
structure RelG (F : Feed) (S0 : Sto) (φ : FEnv) (env : Env') (S : Sto) (n : Nat) : Prop where
  rel : Rel S0 φ env S
  ok : F.ok n S
  out : S0 F.y = none
  free : Free φ env F.y
/-- behind an expression: the feed further on, all else as it was -/
structure Nxt (F : Feed) (S : Sto) (n : Nat) (S' : Sto) : Prop where
  ok : F.ok n S'
  same : ∀ a, a ≠ F.y → S' a = S a
theorem Nxt.refl {F : Feed} {S : Sto} {n : Nat} (h : F.ok n S) : Nxt F S n S := ⟨h, fun _ _ => rfl⟩
theorem Nxt.trans {F : Feed} {S S1 S2 : Sto} {n m : Nat} (h : Nxt F S n S1) (k : Nxt F S1 m S2) : Nxt F S m S2 := ⟨k.ok, fun a e => (k.same a e).trans (h.same a e)⟩
abbrev GE := FEnv → Gen D
abbrev GA := FEnv → Gen (List D)
abbrev GT := FEnv → Gen Bool
abbrev GS := FEnv → Gen Flow
abbrev GV := FEnv → Gen (List SV)
structure GuE (F : Feed) (t : TED) (g : GE) : Prop where
  go : ∀ {S0 : Sto} {φ : FEnv} {env : Env'} {S : Sto} {n : Nat} {Q : QD}, RelG F S0 φ env S n → AllG (g φ) n (fun d n' => ∀ S', Nxt F S n' S' → Q d S') → t env S Q
structure GuA (F : Feed) (t : TAD) (g : GA) : Prop where
  go : ∀ {S0 : Sto} {φ : FEnv} {env : Env'} {S : Sto} {n : Nat} {Q : List D → Sto → Prop}, RelG F S0 φ env S n → AllG (g φ) n (fun d n' => ∀ S', Nxt F S n' S' → Q d S') → t env S Q
structure GuI (F : Feed) (t : TID) (g : GA) : Prop where
  go : ∀ {S0 : Sto} {φ : FEnv} {env : Env'} {S : Sto} {n : Nat} {Q : List D → Sto → Prop}, RelG F S0 φ env S n → AllG (g φ) n (fun d n' => ∀ S', Nxt F S n' S' → Q d S') → t env S Q
structure GuT (F : Feed) (t : TTD) (g : GT) : Prop where
  go : ∀ {S0 : Sto} {φ : FEnv} {env : Env'} {S : Sto} {n : Nat} {Q : Bool → Sto → Prop}, RelG F S0 φ env S n → AllG (g φ) n (fun d n' => ∀ S', Nxt F S n' S' → Q d S') → t env S Q
structure GuO (F : Feed) (t : TOD) (g : FEnv → Gen (Option Int)) : Prop where
  go : ∀ {S0 : Sto} {φ : FEnv} {env : Env'} {S : Sto} {n : Nat} {Q : Option Int → Sto → Prop}, RelG F S0 φ env S n → AllG (g φ) n (fun d n' => ∀ S', Nxt F S n' S' → Q d S') → t env S Q
/-- an object of one's own, made with draws -/
structure GuN (F : Feed) (t : TED) (g : FEnv → Gen MO) : Prop where
  go : ∀ {S0 : Sto} {φ : FEnv} {env : Env'} {S : Sto} {n : Nat} {Q : QD}, RelG F S0 φ env S n → AllG (g φ) n (fun o n' => ∀ S' p, Nxt F S n' S' → S' p = none → Q (.ref p) (sup S' p o)) → t env S Q
def OutG (F : Feed) (S0 : Sto) (De : EndsD) : Flow → Nat → Prop
  | .nx φ, n => ∀ env S, RelG F S0 φ env S n → De.nx env S
  | .rt d, n => ∀ S, (∀ a o, S0 a = some o → S a = some o) → F.ok n S → De.rt d S
  | .bk φ, n => ∀ env S, RelG F S0 φ env S n → De.bk env S
  | .ct φ, n => ∀ env S, RelG F S0 φ env S n → De.ct env S
structure GuS (F : Feed) (st : TSD) (g : GS) : Prop where
  go : ∀ {S0 : Sto} {φ : FEnv} {env : Env'} {S : Sto} {n : Nat} {nx bk ct : Env' → Sto → Prop} {rt : QD}, RelG F S0 φ env S n → AllG (g φ) n (OutG F S0 ⟨nx, rt, bk, ct⟩) → st ⟨nx, rt, bk, ct⟩ env S
/-- a def that draws -/
structure PureG (F : Feed) (sp : SpD) (gn : List D → Gen D) : Prop where
  go : ∀ {ds : List D} {S : Sto} {n : Nat} {Q : QD}, F.ok n S → AllG (gn ds) n (fun d n' => ∀ S', F.ok n' S' → (∀ a, a ≠ F.y → S' a = S a) → Q d S') → sp ds S Q
section
variable {F : Feed} {t ta tb te tf to : TED} {fa fb fc fo : FE} {ga gb ge gd : GE} {tc tu : TTD} {gc gu : GT} {fc1 : FT} {tA tK : TAD} {GA' GK : GA} {FA' : FA} {st su : TSD} {g1 g2 : GS} {fs : FS} {p : TPat} {S0 S S' : Sto} {φ : FEnv} {env : Env'} {n : Nat}
/-! ### what doesn't draw -/
theorem Rel.only (r : Rel S0 φ env S) (h0 : S0 F.y = none) (hf : Free φ env F.y) (k : ∀ a, a ≠ F.y → S' a = S a) : Rel S0 φ env S' where
  len := r.len
  base := fun a o h => by rw [k a (fun e => by subst e; rw [h0] at h; cases h)]; exact r.base _ _ h
  val := r.val
  own := fun j o h => by
    obtain ⟨a, h1, h2, h3⟩ := r.own _ _ h
    exact ⟨a, h1, by rw [k a (fun e => by subst e; exact hf _ _ h h1)]; exact h2, h3⟩
  inj := r.inj
theorem RelG.only {n' : Nat} (r : RelG F S0 φ env S n) (h : F.ok n' S') (k : ∀ a, a ≠ F.y → S' a = S a) : RelG F S0 φ env S' n' := ⟨r.rel.only r.out r.free k, h, r.out, r.free⟩
theorem RelG.nxt {n' : Nat} (r : RelG F S0 φ env S n) (k : Nxt F S n' S') : RelG F S0 φ env S' n' := r.only k.ok k.same
theorem free_setV {y : Addr} {i : Nat} {d : D} (r : Rel S0 φ env S) (hf : Free φ env y) : Free (φ.set i (some (.val d))) (env.set i (some d)) y := fun j o h => by
  rcases set_get h with ⟨rfl, hl, e⟩ | ⟨e, h⟩
  · cases e
  · rw [List.getElem?_set_ne e]; exact hf j o h
theorem free_clr {y : Addr} {i : Nat} (hf : Free φ env y) : Free (φ.set i none) env y := fun j o h => by
  rcases set_get h with ⟨rfl, hl, e⟩ | ⟨e, h⟩
  · cases e
  · exact hf j o h
theorem RelG.setV (r : RelG F S0 φ env S n) (i : Nat) (d : D) : RelG F S0 (φ.set i (some (.val d))) (env.set i (some d)) S n := ⟨r.rel.setV i d, r.ok, r.out, free_setV r.rel r.free⟩
theorem RelG.clr (r : RelG F S0 φ env S n) (i : Nat) : RelG F S0 (φ.set i none) env S n := ⟨r.rel.clr i, r.ok, r.out, free_clr r.free⟩
theorem RelG.clrs : ∀ (vs : List Nat) {φ : FEnv}, RelG F S0 φ env S n → RelG F S0 (clrF φ vs) env S n
  | [], _, r => r
  | v :: vs, _, r => RelG.clrs vs (r.clr v)
mutual
theorem bindF_free {y : Addr} : ∀ {p : TPat} {d : D} {φ φ' : FEnv} {env env' : Env'} {S : Sto}, Rel S0 φ env S → bindF p d φ = some φ' → bindD p d env = some env' → Free φ env y → Free φ' env' y
  | .nm i, d, φ, φ', env, env', S, r, e, e', hf => by
    unfold bindF at e; unfold bindD at e'; cases e; cases e'
    exact free_setV r hf
  | .tp l, d, φ, φ', env, env', S, r, e, e', hf => by
    unfold bindF at e; unfold bindD at e'
    split at e
    · exact bindFs_free r e e' hf
    · cases e
theorem bindFs_free {y : Addr} : ∀ {l : TPats} {ds : List D} {φ φ' : FEnv} {env env' : Env'} {S : Sto}, Rel S0 φ env S → bindFs l ds φ = some φ' → bindDs l ds env = some env' → Free φ env y → Free φ' env' y
  | .nil, ds, φ, φ', env, env', S, r, e, e', hf => by
    unfold bindFs at e; unfold bindDs at e'
    split at e
    · cases e; cases e'; exact hf
    · cases e
  | .cons p l, ds, φ, φ', env, env', S, r, e, e', hf => by
    unfold bindFs at e; unfold bindDs at e'
    split at e
    · cases e
    · obtain ⟨φ1, e1, e2⟩ := obind e
      obtain ⟨env1, h1, h2⟩ := Rel.bind r e1
      simp only [h1] at e'
      exact bindFs_free h2 e2 e' (bindF_free r e1 h1 hf)
end
theorem RelG.bind {p : TPat} {d : D} {φ' : FEnv} (r : RelG F S0 φ env S n) (e : bindF p d φ = some φ') : ∃ env', bindD p d env = some env' ∧ RelG F S0 φ' env' S n := by
  obtain ⟨env', h1, h2⟩ := r.rel.bind e
  exact ⟨env', h1, h2, r.ok, r.out, bindF_free r.rel e h1 r.free⟩
theorem RelG.fresh {q : Addr} {o : MO} (r : RelG F S0 φ env S n) (hq : S q = none) : RelG F S0 φ env (sup S q o) n :=
  ⟨r.rel.fresh hq, F.loc r.ok (by obtain ⟨o', h⟩ := F.here r.ok; rw [sup_ne (fun e => by subst e; rw [hq] at h; cases h)]), r.out, r.free⟩
theorem RelG.ne {q : Addr} (r : RelG F S0 φ env S n) (hq : S q = none) : q ≠ F.y := fun e => by
  obtain ⟨o', h⟩ := F.here r.ok
  subst e; rw [hq] at h; cases h
theorem RelG.setO (r : RelG F S0 φ env S n) (i : Nat) {q : Addr} {o : MO} (hp : S q = some o) (h0 : S0 q = none) (hf : Free φ env q) (hy : q ≠ F.y) : RelG F S0 (φ.set i (some (.own o))) (env.set i (some (.ref q))) S n :=
  ⟨r.rel.setO i hp h0 hf, r.ok, r.out, fun j o' h => by
    rcases set_get h with ⟨rfl, hl, e⟩ | ⟨e, h⟩
    · rw [List.getElem?_set_self (by rw [r.rel.len]; exact hl)]
      intro h2; cases h2; exact hy rfl
    · rw [List.getElem?_set_ne e]; exact r.free j o' h⟩
theorem RelG.upd (r : RelG F S0 φ env S n) {i : Nat} {a : Addr} {o o' : MO} (h : φ[i]? = some (some (SV.own o))) (ha : env[i]? = some (some (D.ref a))) : RelG F S0 (φ.set i (some (.own o'))) env (sup S a o') n :=
  ⟨r.rel.upd h ha, F.loc r.ok (by rw [sup_ne (fun e => r.free _ _ h (by rw [e]; exact ha))]), r.out, fun j o2 h2 => by
    rcases set_get h2 with ⟨rfl, hl, e⟩ | ⟨e, h2⟩
    · exact r.free _ _ h
    · exact r.free _ _ h2⟩
theorem RelG.freeze (r : RelG F S0 φ env S n) {i : Nat} {a : Addr} {o : MO} {d : D} (h : φ[i]? = some (some (SV.own o))) (ha : env[i]? = some (some (D.ref a))) : RelG F S0 (φ.set i (some (.val d))) (env.set i (some d)) (sdel S a) n :=
  ⟨r.rel.freeze h ha, F.loc r.ok (by rw [sdel_ne (fun e => r.free _ _ h (by rw [e]; exact ha))]), r.out, free_setV r.rel r.free⟩
theorem RelG.wipe (r : RelG F S0 φ env S n) (vs : List Nat) : RelG F S0 (wipeF φ vs) (wipeD env vs) S n :=
  ⟨r.rel.wipe vs, r.ok, r.out, by
    have : ∀ vs : List Nat, Free (wipeF φ vs) (wipeD env vs) F.y ∧ (wipeD env vs).length = (wipeF φ vs).length := fun vs => by
      induction vs with
      | nil => exact ⟨r.free, r.rel.len⟩
      | cons v vs ih =>
        unfold wipeF wipeD
        refine ⟨fun j o h => ?_, by simpa using ih.2⟩
        rcases set_get h with ⟨rfl, hl, e⟩ | ⟨e, h⟩
        · cases e
        · rw [List.getElem?_set_ne e]; exact ih.1 j o h
    exact (this vs).1⟩
def gE (f : FE) : GE := fun φ => .of (f φ)
def gT (f : FT) : GT := fun φ => .of (f φ)
def gA (f : FA) : GA := fun φ => .of (f φ)
def gO (f : FEnv → Option (Option Int)) : FEnv → Gen (Option Int) := fun φ => .of (f φ)
def gS (f : FS) : GS := fun φ => .of (f φ)
def gN (f : FEnv → Option MO) : FEnv → Gen MO := fun φ => .of (f φ)
theorem gu_e (h : PuE ta fa) : GuE F ta (gE fa) := .mk fun {S0 φ env S n Q} r q => by
  obtain ⟨d, e, q⟩ := allG_of q
  exact h.go r.rel e (q S (.refl r.ok))
theorem gu_t (h : PuT tc fc1) : GuT F tc (gT fc1) := .mk fun {S0 φ env S n Q} r q => by
  obtain ⟨d, e, q⟩ := allG_of q
  exact h.go r.rel e (q S (.refl r.ok))
theorem gu_a (h : PuA tA FA') : GuA F tA (gA FA') := .mk fun {S0 φ env S n Q} r q => by
  obtain ⟨d, e, q⟩ := allG_of q
  exact h.go r.rel e (q S (.refl r.ok))
theorem gu_i {w : TID} (h : PuI w FA') : GuI F w (gA FA') := .mk fun {S0 φ env S n Q} r q => by
  obtain ⟨d, e, q⟩ := allG_of q
  exact h.go r.rel e (q S (.refl r.ok))
theorem gu_o {tO : TOD} {f : FEnv → Option (Option Int)} (h : PuO tO f) : GuO F tO (gO f) := .mk fun {S0 φ env S n Q} r q => by
  obtain ⟨d, e, q⟩ := allG_of q
  exact h.go r.rel e (q S (.refl r.ok))
theorem gu_n {f : FEnv → Option MO} (h : PuN ta f) : GuN F ta (gN f) := .mk fun {S0 φ env S n Q} r q => by
  obtain ⟨d, e, q⟩ := allG_of q
  exact h.go r.rel e fun a ha => q S a (.refl r.ok) ha
/-! ### rows, operators -/
def gCons (f : GE) (r : GA) : GA := fun φ => (f φ).bind fun x => (r φ).bind fun xs => .ret (x :: xs)
theorem gu_nil : GuA F tdNil (gA fNil) := gu_a pu_nil
theorem gu_cons (ha : GuE F ta ga) (hr : GuA F tA GA') : GuA F (tdCons ta tA) (gCons ga GA') := .mk fun {S0 φ env S n Q} r q =>
  p_cons (ha.go r (allG_mono (fun x n1 q S1 r1 => hr.go (r.nxt r1) (allG_mono (fun xs n2 q S2 r2 => q S2 (r1.trans r2)) (allG_bind.mp q))) (allG_bind.mp q)))
def gTup (fa : GA) : GE := fun φ => (fa φ).bind fun ds => if ds.length ≤ LMX then .ret (.tup ds) else .fail
def gLst (fa : GA) : GE := fun φ => (fa φ).bind fun ds => if ds.length ≤ LMX then .ret (.lst ds) else .fail
theorem gu_tup (ha : GuA F tA GA') : GuE F (tdTup tA) (gTup GA') := .mk fun {S0 φ env S n Q} r q =>
  p_tup (ha.go r (allG_mono (fun ds n1 q S1 r1 => by
    split at q
    · exact ⟨lmx (by assumption), q S1 r1⟩
    · exact q.elim) (allG_bind.mp q)))
theorem gu_lst (ha : GuA F tA GA') : GuE F (tdLst tA) (gLst GA') := .mk fun {S0 φ env S n Q} r q =>
  p_lst (ha.go r (allG_mono (fun ds n1 q S1 r1 => by
    split at q
    · exact ⟨lmx (by assumption), q S1 r1⟩
    · exact q.elim) (allG_bind.mp q)))
def gOp (gf : D → D → Option D) (fa fb : GE) : GE := fun φ => (fa φ).bind fun x => (fb φ).bind fun y => .of (gf x y)
theorem gu_op {gD : Sto → D → D → PR} {gf : D → D → Option D} (hr : ∀ {S : Sto} {x y r : D}, gf x y = some r → ∃ c, gD S x y = some (c, r) ∧ c) (ha : GuE F ta ga) (hb : GuE F tb gb) : GuE F (tdOp (rdP gD) ta tb) (gOp gf ga gb) := .mk fun {S0 φ env S n Q} r q =>
  p_op (ha.go r (allG_mono (fun x n1 q S1 r1 => hb.go (r.nxt r1) (allG_mono (fun y n2 q S2 r2 => by
    obtain ⟨z, e, q⟩ := allG_of q
    obtain ⟨c, e3, hc⟩ := hr e
    exact p_r e3 hc (q S2 (r1.trans r2))) (allG_bind.mp q))) (allG_bind.mp q)))
theorem RespB.e {gD : Sto → D → D → PR} {gf : D → D → Option D} (h : RespB gD gf) : ∀ {S : Sto} {x y r : D}, gf x y = some r → ∃ c, gD S x y = some (c, r) ∧ c := fun e => h .rfl .rfl e
theorem resp_in {neg : Bool} {S : Sto} {x y r : D} (e : inF neg x y = some r) : ∃ c, PL.inR neg S x y = some (c, r) ∧ c := by
  unfold inF at e
  split at e
  · split at e
    · cases e; exact ⟨_, rfl, trivial⟩
    · cases e
  · split at e
    · cases e; exact ⟨_, inR_tup, by assumption⟩
    · cases e
  · split at e
    · cases e; exact ⟨_, inR_L rfl, by assumption⟩
    · cases e
  · cases e
/-- an operator whose first operand is lent by a slot -/
def gOpV (gf : D → D → Option D) (i : Nat) (fb : GE) : GE := fun φ => (Gen.of (fVarB i φ)).bind fun x => (fb φ).bind fun y => .of (gf x y)
theorem gu_opV {i : Nat} {gD : Sto → D → D → PR} {gf : D → D → Option D} (hr : RespB gD gf) (hb : GuE F tb gb) : GuE F (tdOp (rdP gD) (tdVar i) tb) (gOpV gf i gb) := .mk fun {S0 φ env S n Q} r q => by
  obtain ⟨x, e, q⟩ := allG_of (allG_bind.mp q)
  have key : ∀ {S : Sto} {n : Nat}, RelG F S0 φ env S n → ∃ d', env[i]? = some (some d') ∧ Bor S d' x := fun {S n} r => by
    unfold fVarB at e
    split at e
    · cases e; rename_i h; exact ⟨_, r.rel.val _ _ h, .rfl⟩
    · rename_i o h
      obtain ⟨a, h1, h2, _⟩ := r.rel.own _ _ h
      exact ⟨_, h1, .inr ⟨a, o, rfl, h2, e⟩⟩
    · cases e
  obtain ⟨d', hd, _⟩ := key r
  refine p_op (p_var hd (hb.go r (allG_mono (fun y n2 q S2 r2 => ?_) (allG_bind.mp q))))
  obtain ⟨z, e', q⟩ := allG_of q
  obtain ⟨d2, hd2, hB⟩ := key (r.nxt r2)
  rw [hd] at hd2; cases hd2
  obtain ⟨c, e3, hc⟩ := hr hB .rfl e'
  exact p_r e3 hc (q S2 r2)
def gCB (gf : List D → Option D) (fa : GA) : GE := fun φ => (fa φ).bind fun x => .of (gf x)
theorem gu_cb {gD : Sto → List D → PR} {gf : List D → Option D} (hr : RespC gD gf) (ha : GuA F tA GA') : GuE F (tdCB (rdC gD) tA) (gCB gf GA') := .mk fun {S0 φ env S n Q} r q =>
  p_cb (ha.go r (allG_mono (fun x n1 q S1 r1 => by
    obtain ⟨z, e, q⟩ := allG_of q
    obtain ⟨c, e3, hc⟩ := hr BorL.refl e
    exact p_rc e3 hc (q S1 r1)) (allG_bind.mp q)))
def gUn (gf : D → Option D) (fa : GE) : GE := fun φ => (fa φ).bind fun x => .of (gf x)
theorem gu_neg (ha : GuE F ta ga) : GuE F (tdUn rdNeg ta) (gUn negF ga) := .mk fun {S0 φ env S n Q} r q =>
  p_un (ha.go r (allG_mono (fun x n1 q S1 r1 => by
    obtain ⟨z, e, q⟩ := allG_of q
    unfold negF at e
    split at e
    · cases e; exact p_neg (q S1 r1)
    · cases e) (allG_bind.mp q)))
/-! ### tests -/
def gB (f : GE) : GT := fun φ => (f φ).bind fun d => match d with
  | .bl b => .ret b
  | _ => .fail
theorem gu_b (ha : GuE F ta ga) : GuT F (tdB ta) (gB ga) := .mk fun {S0 φ env S n Q} r q =>
  p_b (ha.go r (allG_mono (fun x n1 q S1 r1 => by
    split at q
    · exact p_qb (q S1 r1)
    · exact q.elim) (allG_bind.mp q)))
def gAnd (c u : GT) : GT := fun φ => (c φ).bind fun b => if b = true then u φ else .ret false
def gOr (c u : GT) : GT := fun φ => (c φ).bind fun b => if b = true then .ret true else u φ
def gNot (c : GT) : GT := fun φ => (c φ).bind fun b => .ret (!b)
theorem gu_and (h1 : GuT F tc gc) (h2 : GuT F tu gu) : GuT F (tdAnd tc tu) (gAnd gc gu) := .mk fun {S0 φ env S n Q} r q =>
  p_and (h1.go r (allG_mono (fun b n1 q S1 r1 => by
    cases b
    · exact q S1 r1
    · exact h2.go (r.nxt r1) (allG_mono (fun b n2 q S2 r2 => q S2 (r1.trans r2)) q)) (allG_bind.mp q)))
theorem gu_or (h1 : GuT F tc gc) (h2 : GuT F tu gu) : GuT F (tdOr tc tu) (gOr gc gu) := .mk fun {S0 φ env S n Q} r q =>
  p_or (h1.go r (allG_mono (fun b n1 q S1 r1 => by
    cases b
    · exact h2.go (r.nxt r1) (allG_mono (fun b n2 q S2 r2 => q S2 (r1.trans r2)) q)
    · exact q S1 r1) (allG_bind.mp q)))
theorem gu_not (h1 : GuT F tc gc) : GuT F (tdNot tc) (gNot gc) := .mk fun {S0 φ env S n Q} r q =>
  p_not (h1.go r (allG_mono (fun b n1 q S1 r1 => q S1 r1) (allG_bind.mp q)))
def gIf (c : GT) (f g : GE) : GE := fun φ => (c φ).bind fun b => if b = true then f φ else g φ
theorem gu_if (h : GuT F tc gc) (h1 : GuE F ta ga) (h2 : GuE F tb gb) : GuE F (tdIf tc ta tb) (gIf gc ga gb) := .mk fun {S0 φ env S n Q} r q =>
  p_if (h.go r (allG_mono (fun b n1 q S1 r1 => by
    cases b
    · exact h2.go (r.nxt r1) (allG_mono (fun b n2 q S2 r2 => q S2 (r1.trans r2)) q)
    · exact h1.go (r.nxt r1) (allG_mono (fun b n2 q S2 r2 => q S2 (r1.trans r2)) q)) (allG_bind.mp q)))
/-! ### slices, tables -/
def gPart (f : GE) : FEnv → Gen (Option Int) := fun φ => (f φ).bind fun d => match d with
  | .int i => .ret (some i)
  | _ => .fail
theorem gu_part (ha : GuE F ta ga) : GuO F (tdPart ta) (gPart ga) := .mk fun {S0 φ env S n Q} r q =>
  p_part (ha.go r (allG_mono (fun x n1 q S1 r1 => by
    split at q
    · exact p_partI (q S1 r1)
    · exact q.elim) (allG_bind.mp q)))
def gSl (fa : GE) (fl fh : FEnv → Gen (Option Int)) : GE := fun φ => (fa φ).bind fun x => (fl φ).bind fun lo => (fh φ).bind fun hi => .of (slF lo hi x)
theorem gu_sl {tl th : TOD} {fl fh : FEnv → Gen (Option Int)} (ha : GuE F ta ga) (hl : GuO F tl fl) (hh : GuO F th fh) : GuE F (tdSl ta tl th) (gSl ga fl fh) := .mk fun {S0 φ env S n Q} r q => by
  have q := allG_bind.mp q
  refine p_sl (ha.go r (allG_mono (fun x n1 q S1 r1 => ?_) q))
  have q := allG_bind.mp q
  refine hl.go (r.nxt r1) (allG_mono (fun lo n2 q S2 r2 => ?_) q)
  have q := allG_bind.mp q
  refine hh.go ((r.nxt r1).nxt r2) (allG_mono (fun hi n3 q S3 r3 => ?_) q)
  obtain ⟨z, e, q⟩ := allG_of q
  have q := q S3 ((r1.trans r2).trans r3)
  unfold slF at e
  split at e
  · cases e; exact p_onE rfl trivial q
  · cases e; exact p_onE rfl trivial q
  · cases e; exact p_onE rfl trivial q
  · split at e
    · cases e; exact p_onE rfl (lmx (by assumption)) q
    · cases e
  · cases e
/-! ### calls -/
def gCall (gn : List D → Gen D) (fa : GA) : GE := fun φ => (fa φ).bind gn
theorem gu_call {sp : SpD} {gn : List D → Gen D} (hp : PureG F sp gn) (ha : GuA F tA GA') : GuE F (tdCall sp [] tA) (gCall gn GA') := .mk fun {S0 φ env S n Q} r q =>
  p_call0 (ha.go r (allG_mono (fun ds n1 q S1 r1 => hp.go r1.ok (allG_mono (fun d n2 q S2 h2 k2 => q S2 (r1.trans ⟨h2, k2⟩)) q)) (allG_bind.mp q)))
theorem Pure.g {sp : SpD} {fn : List D → Option D} (h : Pure sp fn) : PureG F sp (fun ds => .of (fn ds)) := .mk fun {ds S n Q} ok q => by
  obtain ⟨d, e, q⟩ := allG_of q
  exact h.go e (q S ok fun _ _ => rfl)
def gCallK (gn : List D → Gen D) (k m : Nat) (pm : List Nat) (fa fk : GA) : GE := fun φ => (fa φ).bind fun ds => (fk φ).bind fun zs => if ds.length = k ∧ zs.length = m then gn (pick pm (ds ++ zs)) else .fail
theorem gu_callK {sp : SpD} {gn : List D → Gen D} {k m : Nat} {pm : List Nat} (hp : PureG F sp gn) (ha : GuA F tA GA') (hk : GuA F tK GK) : GuE F (tdCallK sp k m pm [] tA tK) (gCallK gn k m pm GA' GK) := .mk fun {S0 φ env S n Q} r q =>
  p_callK (ha.go r (allG_mono (fun ds n1 q S1 r1 => hk.go (r.nxt r1) (allG_mono (fun zs n2 q S2 r2 => by
    split at q
    · rename_i h
      refine ⟨h.1, h.2, ?_⟩
      rw [List.append_nil]
      exact hp.go r2.ok (allG_mono (fun d n2 q S3 h2 k2 => q S3 ((r1.trans r2).trans ⟨h2, k2⟩)) q)
    · exact q.elim) (allG_bind.mp q))) (allG_bind.mp q)))
/-! ### comprehensions that draw -/
def gSeqI (f : GE) : GA := fun φ => (f φ).bind fun d => .of (seqV d)
theorem gu_seqI (ha : GuE F ta ga) : GuI F (tdSeqI ta) (gSeqI ga) := .mk fun {S0 φ env S n Q} r q =>
  p_seqI (ha.go r (allG_mono (fun x n1 q S1 r1 => by
    obtain ⟨z, e, q⟩ := allG_of q
    unfold pSeqV
    rw [e]
    exact q S1 r1) (allG_bind.mp q)))
def gRng1 (f : GA) : GA := fun φ => (f φ).bind fun d => .of (rngF1 d)
theorem gu_rng1 (ha : GuA F tA GA') : GuI F (tdRng1 tA) (gRng1 GA') := .mk fun {S0 φ env S n Q} r q =>
  p_rng1 (ha.go r (allG_mono (fun x n1 q S1 r1 => by
    obtain ⟨z, e, q⟩ := allG_of q
    unfold rngF1 at e
    split at e
    · split at e
      · cases e; exact ⟨rngB_ok (by assumption), q S1 r1⟩
      · cases e
    · cases e) (allG_bind.mp q)))
def gLcGo (p : TPat) (c : GT) (f : GE) (φ : FEnv) : List D → Gen (List D)
  | [] => .ret []
  | d :: r => (Gen.of (bindF p d φ)).bind fun φ' => (c φ').bind fun b => if b = true then (f φ').bind fun y => (gLcGo p c f φ r).bind fun ys => .ret (y :: ys) else gLcGo p c f φ r
theorem gu_lcGo {tt : TTD} {c : GT} {q : Addr} {QL : List D → Sto → Prop} (hc : GuT F tt c) (he : GuE F te ge) :
    ∀ (ds acc : List D) (S : Sto) (n : Nat), S q = none → RelG F S0 φ env S n → acc.length + ds.length < LMX → AllG (gLcGo p c ge φ ds) n (fun out n' => ∀ S', Nxt F S n' S' → QL (acc ++ out) S') → tdLcGo q (lcStep p tt te env) ds acc (sup S q (.lst acc)) QL
  | [], acc, S, n, hq, r, hl, h => by
    have h : ∀ S', Nxt F S n S' → QL (acc ++ []) S' := h
    rw [List.append_nil] at h
    exact ⟨sup_same, by rw [sdel_sup hq]; exact h S (.refl r.ok)⟩
  | d :: rs, acc, S, n, hq, r, hl, h => by
    unfold gLcGo at h
    obtain ⟨φ', e1, h⟩ := allG_of (allG_bind.mp h)
    obtain ⟨env', h1, r2⟩ := (r.fresh (o := .lst acc) hq).bind e1
    rw [List.length_cons] at hl
    have hqy := r.ne hq
    -- the store behind a step, without the list
    have back : ∀ {m : Nat} {S2 : Sto}, Nxt F (sup S q (.lst acc)) m S2 → S2 = sup (sdel S2 q) q (.lst acc) ∧ Nxt F S m (sdel S2 q) := fun {m S2} k => by
      have e : S2 q = some (.lst acc) := (k.same q hqy).trans sup_same
      refine ⟨?_, F.loc k.ok (sdel_ne (Ne.symm hqy)), fun a ha => ?_⟩
      · funext a
        by_cases h : a = q
        · subst h; rw [sup_same, e]
        · rw [sup_ne h, sdel_ne h]
      · by_cases h : a = q
        · subst h; rw [sdel_same, hq]
        · rw [sdel_ne h, k.same a ha, sup_ne h]
    refine ⟨sup_same, lc_step h1 (hc.go r2 (allG_mono (fun b n1 h S2 k2 => ?_) (allG_bind.mp h)))⟩
    cases b
    · rw [if_neg Bool.false_ne_true] at h ⊢
      refine ⟨(k2.same q hqy).trans sup_same, ?_⟩
      obtain ⟨b1, b2⟩ := back k2
      rw [b1]
      exact gu_lcGo hc he rs acc (sdel S2 q) n1 sdel_same (r.nxt b2) (by omega) (allG_mono (fun out m h S' k' => h S' (b2.trans k')) h)
    · rw [if_pos rfl] at h ⊢
      refine he.go (r2.nxt k2) (allG_mono (fun y n2 h S3 k3 => ?_) (allG_bind.mp h))
      have k23 := k2.trans k3
      obtain ⟨b1, b2⟩ := back k23
      refine ⟨(k23.same q hqy).trans sup_same, ?_, ?_⟩
      · rw [sizeLine_eq]; have : acc.length < LMX := by omega
        exact this
      · have hs : sup S3 q (.lst (acc ++ [y])) = sup (sdel S3 q) q (.lst (acc ++ [y])) := by
          funext a
          by_cases h : a = q
          · subst h; rw [sup_same, sup_same]
          · rw [sup_ne h, sup_ne h, sdel_ne h]
        rw [hs]
        refine gu_lcGo hc he rs (acc ++ [y]) (sdel S3 q) n2 sdel_same (r.nxt b2) (by simp; omega) (allG_mono (fun out m h S' k' => ?_) (allG_bind.mp h))
        have h : ∀ S', Nxt F S m S' → QL (acc ++ (y :: out)) S' := h
        have := h S' (b2.trans k')
        rwa [List.append_cons] at this
def gLc (w : GA) (p : TPat) (c : GT) (f : GE) (own : List Nat) : GE := fun φ => (w φ).bind fun ds => if ds.length < LMX then (gLcGo p c f (wipeF φ own) ds).bind fun out => .ret (.lst out) else .fail
theorem gu_lc {w : TID} {tt : TTD} {c : GT} {own : List Nat} (hw : GuI F w GA') (hc : GuT F tt c) (he : GuE F te ge) : GuE F (tdLc w p tt te own) (gLc GA' p c ge own) := .mk fun {S0 φ env S n Q} r q =>
  p_lc (hw.go r (allG_mono (fun ds n1 q S1 k1 => by
    split at q
    · intro a ha
      exact gu_lcGo hc he ds [] S1 n1 ha ((r.nxt k1).wipe own) (by simpa) (allG_mono (fun out m q S' k' => q S' (k1.trans k')) (allG_bind.mp q))
    · exact q.elim) (allG_bind.mp q)))
end
end PL

namespace PL
open PySem PySem.Spec PyProof.Rows L2
section
variable {F : Feed} {t ta tb te tf to : TED} {fa fb fc fo : FE} {ga gb ge gd : GE} {tc tu : TTD} {gc gu : GT} {fc1 : FT} {tA tK : TAD} {GA' GK : GA} {FA' : FA} {st su : TSD} {g1 g2 : GS} {fs : FS} {p : TPat} {S0 S S' : Sto} {φ : FEnv} {env : Env'} {n : Nat}
theorem RelG.rely (r : RelG F S0 φ env S n) : ∃ o, S F.y = some o ∧ Rel (sup S0 F.y o) φ env S := by
  obtain ⟨o, h⟩ := F.here r.ok
  refine ⟨o, h, r.rel.len, fun a o' ha => ?_, r.rel.val, fun j o' hj => ?_, r.rel.inj⟩
  · by_cases e : a = F.y
    · subst e; rw [sup_same] at ha; cases ha; exact h
    · rw [sup_ne e] at ha; exact r.rel.base _ _ ha
  · obtain ⟨a, h1, h2, h3⟩ := r.rel.own _ _ hj
    exact ⟨a, h1, h2, by rw [sup_ne (fun e => r.free _ _ hj (by rw [← e]; exact h1))]; exact h3⟩
theorem rely_back {o : MO} (out : S0 F.y = none) (ok : F.ok n S) (ho : S F.y = some o) {φ' : FEnv} {env' : Env'} {S' : Sto} (r : Rel (sup S0 F.y o) φ' env' S') : RelG F S0 φ' env' S' n where
  rel := ⟨r.len, fun a o' ha => r.base _ _ (by rw [sup_ne (fun e => by subst e; rw [out] at ha; cases ha)]; exact ha), r.val, fun j o' hj => by
    obtain ⟨a, h1, h2, h3⟩ := r.own _ _ hj
    refine ⟨a, h1, h2, ?_⟩
    by_cases e : a = F.y
    · subst e; rw [sup_same] at h3; cases h3
    · rw [sup_ne e] at h3; exact h3, r.inj⟩
  ok := F.loc ok ((r.base _ _ sup_same).trans ho.symm)
  out := out
  free := fun j o' hj e => by
    obtain ⟨a, h1, h2, h3⟩ := r.own _ _ hj
    rw [h1] at e; cases e
    rw [sup_same] at h3; cases h3
theorem gu_s (h : PuS st fs) : GuS F st (gS fs) := .mk fun {S0 φ env S n nx bk ct rt} r q => by
  obtain ⟨w, e, q⟩ := allG_of q
  obtain ⟨o, ho, ry⟩ := r.rely
  refine h.go ry e ?_
  cases w with
  | nx φ' => exact fun env' S' r' => q _ _ (rely_back r.out r.ok ho r')
  | bk φ' => exact fun env' S' r' => q _ _ (rely_back r.out r.ok ho r')
  | ct φ' => exact fun env' S' r' => q _ _ (rely_back r.out r.ok ho r')
  | rt d =>
    refine fun S' hb => q S' (fun a o' ha => hb a o' ?_) (F.loc r.ok ((hb _ _ sup_same).trans ho.symm))
    rw [sup_ne (fun e => by subst e; rw [r.out] at ha; cases ha)]; exact ha
def Flow.gg (w : Flow) (h : GS) : Gen Flow := match w with
  | .nx φ => h φ
  | .rt d => .ret (.rt d)
  | .bk φ => .ret (.bk φ)
  | .ct φ => .ret (.ct φ)
def gSeq (g h : GS) : GS := fun φ => (g φ).bind fun w => w.gg h
theorem gu_seq (h1 : GuS F st g1) (h2 : GuS F su g2) : GuS F (tdSeq st su) (gSeq g1 g2) := .mk fun {S0 φ env S n nx bk ct rt} r q =>
  p_seq (h1.go r (allG_mono (fun w n1 q => by
    cases w with
    | nx φ1 => exact fun env1 S1 r1 => h2.go r1 q
    | rt d => exact q
    | bk φ1 => exact q
    | ct φ1 => exact q) (allG_bind.mp q)))
def gRet (f : GE) : GS := fun φ => (f φ).bind fun d => .ret (.rt d)
theorem gu_ret (ha : GuE F ta ga) : GuS F (tdRet ta) (gRet ga) := .mk fun {S0 φ env S n nx bk ct rt} r q =>
  p_ret (ha.go r (allG_mono (fun d n1 q S1 k1 => q S1 (r.nxt k1).rel.base k1.ok) (allG_bind.mp q)))
def gDrop (f : GE) : GS := fun φ => (f φ).bind fun _ => .ret (.nx φ)
theorem gu_drop (ha : GuE F ta ga) : GuS F (tdDrop ta) (gDrop ga) := .mk fun {S0 φ env S n nx bk ct rt} r q =>
  p_drop (ha.go r (allG_mono (fun d n1 q S1 k1 => q _ _ (r.nxt k1)) (allG_bind.mp q)))
def gIfS (c : GT) (g h : GS) : GS := fun φ => (c φ).bind fun b => if b = true then g φ else h φ
theorem gu_ifS (hc : GuT F tc gc) (h1 : GuS F st g1) (h2 : GuS F su g2) : GuS F (tdIfS tc st su) (gIfS gc g1 g2) := .mk fun {S0 φ env S n nx bk ct rt} r q =>
  p_ifS (hc.go r (allG_mono (fun b n1 q S1 k1 => by
    cases b
    · exact h2.go (r.nxt k1) q
    · exact h1.go (r.nxt k1) q) (allG_bind.mp q)))
def gAsg (f : GE) (p : TPat) : GS := fun φ => (f φ).bind fun d => (Gen.of (bindF p d φ)).bind fun φ' => .ret (.nx φ')
theorem gu_asg (ha : GuE F ta ga) : GuS F (tdAsg ta p) (gAsg ga p) := .mk fun {S0 φ env S n nx bk ct rt} r q =>
  p_asg' (ha.go r (allG_mono (fun d n1 q S1 k1 => by
    obtain ⟨φ', e, q⟩ := allG_of (allG_bind.mp q)
    obtain ⟨env', h1, r2⟩ := (r.nxt k1).bind e
    rw [h1]
    exact q _ _ r2) (allG_bind.mp q)))
/-! ### objects of one's own -/
def gNewL (fa : GA) : FEnv → Gen MO := fun φ => (fa φ).bind fun ds => if ds.length ≤ LMX then .ret (.lst ds) else .fail
theorem gu_newL (ha : GuA F tA GA') : GuN F (tdLstR tA) (gNewL GA') := .mk fun {S0 φ env S n Q} r q =>
  p_lstR (ha.go r (allG_mono (fun ds n1 q S1 k1 => by
    split at q
    · exact ⟨lmx (by assumption), fun a ha => q S1 a k1 ha⟩
    · exact q.elim) (allG_bind.mp q)))
def gNewAdd (fa fb : GE) : FEnv → Gen MO := fun φ => (fa φ).bind fun x => (fb φ).bind fun y => .of (newAddF x y)
theorem gu_newAdd (ha : GuE F ta ga) (hb : GuE F tb gb) : GuN F (tdOp rdAddR ta tb) (gNewAdd ga gb) := .mk fun {S0 φ env S n Q} r q =>
  p_op (ha.go r (allG_mono (fun x n1 q S1 r1 => hb.go (r.nxt r1) (allG_mono (fun y n2 q S2 r2 => by
    obtain ⟨z, e, q⟩ := allG_of q
    unfold newAddF at e
    split at e
    · split at e
      · cases e
        exact p_addR rfl rfl (lmx (by assumption)) fun a ha => q S2 a (r1.trans r2) ha
      · cases e
    · cases e) (allG_bind.mp q))) (allG_bind.mp q)))
/-- .. where the first list is lent by a slot -/
def gNewAddV (i : Nat) (fb : GE) : FEnv → Gen MO := fun φ => (Gen.of (fVarB i φ)).bind fun x => (fb φ).bind fun y => .of (newAddF x y)
theorem gu_newAddV {i : Nat} (hb : GuE F tb gb) : GuN F (tdOp rdAddR (tdVar i) tb) (gNewAddV i gb) := .mk fun {S0 φ env S n Q} r q => by
  obtain ⟨x, e, q⟩ := allG_of (allG_bind.mp q)
  have key : ∀ {S : Sto} {n : Nat}, RelG F S0 φ env S n → ∃ d', env[i]? = some (some d') ∧ Bor S d' x := fun {S n} r => by
    unfold fVarB at e
    split at e
    · cases e; rename_i h; exact ⟨_, r.rel.val _ _ h, .rfl⟩
    · rename_i o h
      obtain ⟨a, h1, h2, _⟩ := r.rel.own _ _ h
      exact ⟨_, h1, .inr ⟨a, o, rfl, h2, e⟩⟩
    · cases e
  obtain ⟨d', hd, _⟩ := key r
  refine p_op (p_var hd (hb.go r (allG_mono (fun y n2 q S2 r2 => ?_) (allG_bind.mp q))))
  obtain ⟨z, e', q⟩ := allG_of q
  obtain ⟨d2, hd2, hB⟩ := key (r.nxt r2)
  rw [hd] at hd2; cases hd2
  unfold newAddF at e'
  split at e'
  · split at e'
    · cases e'
      exact p_addR hB.lst rfl (lmx (by assumption)) fun a ha => q S2 a r2 ha
    · cases e'
  · cases e'
def gAsgN (f : FEnv → Gen MO) (i : Nat) : GS := fun φ => (f φ).bind fun o => .ret (.nx (φ.set i (some (.own o))))
theorem gu_asgN {f : FEnv → Gen MO} {i : Nat} (ha : GuN F ta f) : GuS F (tdAsg ta (.nm i)) (gAsgN f i) := .mk fun {S0 φ env S n nx bk ct rt} r q =>
  p_asg' (ha.go r (allG_mono (fun o n1 q S1 a k1 hq => by
    have r1 := r.nxt k1
    exact q _ _ ((r1.fresh hq).setO i sup_same (r1.rel.none0 hq) (r1.rel.free hq) (r1.ne hq))) (allG_bind.mp q)))
/-! ### several at once -/
structure GuV (F : Feed) (t : TAD) (g : GV) : Prop where
  go : ∀ {S0 : Sto} {φ : FEnv} {env : Env'} {S : Sto} {n : Nat} {Q : List D → Sto → Prop}, RelG F S0 φ env S n → AllG (g φ) n (fun vs n' => ∀ S' ds ps, RelG F S0 φ env S' n' → (∀ a o, a ≠ F.y → S a = some o → S' a = some o) → (∀ a ∈ ps, S a = none) → NewL S0 φ env S' vs ds ps → Q ds S') → t env S Q
def gVNil : GV := fun _ => .ret []
def gVVal (f : GE) (r : GV) : GV := fun φ => (f φ).bind fun x => (r φ).bind fun xs => .ret (.val x :: xs)
def gVOwn (f : FEnv → Gen MO) (r : GV) : GV := fun φ => (f φ).bind fun x => (r φ).bind fun xs => .ret (.own x :: xs)
theorem gu_vnil : GuV F tdNil gVNil := .mk fun r q => q _ _ [] r (fun _ _ _ h => h) (by simp) .nil
theorem gu_vval {fr : GV} (ha : GuE F ta ga) (hr : GuV F tA fr) : GuV F (tdCons ta tA) (gVVal ga fr) := .mk fun {S0 φ env S n Q} r q =>
  p_cons (ha.go r (allG_mono (fun x n1 q S1 k1 => hr.go (r.nxt k1) (allG_mono (fun xs n2 q S2 ds ps r2 k hp nl =>
    q S2 _ ps r2 (fun a o ha h => k a o ha (by rw [k1.same a ha]; exact h)) (fun a ha => by
      have hy : a ≠ F.y := (r.nxt k1).ne (hp a ha)
      rw [← k1.same a hy]; exact hp a ha) (.val nl)) (allG_bind.mp q))) (allG_bind.mp q)))
theorem gu_vown {fn : FEnv → Gen MO} {fr : GV} (ha : GuN F ta fn) (hr : GuV F tA fr) : GuV F (tdCons ta tA) (gVOwn fn fr) := .mk fun {S0 φ env S n Q} r q =>
  p_cons (ha.go r (allG_mono (fun x n1 q S1 a k1 hp0 => hr.go ((r.nxt k1).fresh hp0) (allG_mono (fun xs n2 q S2 ds ps r2 k hp nl => by
    have r1 := r.nxt k1
    have hay : a ≠ F.y := r1.ne hp0
    have hps : ∀ b ∈ ps, b ≠ a ∧ S1 b = none := fun b hb => by
      have := hp b hb
      by_cases e : b = a
      · subst e; rw [sup_same] at this; cases this
      · rw [sup_ne e] at this; exact ⟨e, this⟩
    refine q S2 _ (a :: ps) r2 (fun b o hb h => ?_) (fun b hb => ?_) (.own (k a _ hay sup_same) (r1.rel.none0 hp0) (r1.rel.free hp0) (fun hm => (hps a hm).1 rfl) nl)
    · refine k b o hb ?_
      have h1 : S1 b = some o := by rw [k1.same b hb]; exact h
      rw [sup_ne (fun e => by subst e; rw [hp0] at h1; cases h1)]; exact h1
    · rcases List.mem_cons.mp hb with rfl | hb
      · rw [← k1.same _ hay]; exact hp0
      · rw [← k1.same b (r1.ne (hps b hb).2)]; exact (hps b hb).2) (allG_bind.mp q))) (allG_bind.mp q)))
theorem newL_y {y : Addr} {o : MO} {vs : List SV} {ds : List D} {ps : List Addr} (h : ∀ p ∈ ps, p ≠ y) (nl : NewL S0 φ env S vs ds ps) : NewL (sup S0 y o) φ env S vs ds ps := by
  induction nl with
  | nil => exact .nil
  | val t ih => exact .val (ih h)
  | own a b c d t ih => exact .own a (by rw [sup_ne (h _ (by simp))]; exact b) c d (ih fun q hq => h q (by simp [hq]))
def gPar (is : List Nat) (f : GV) : GS := fun φ => (f φ).bind fun vs => if vs.length = is.length then .ret (.nx (setsF is vs φ)) else .fail
theorem gu_par {is : List Nat} {f : GV} (ha : GuV F tA f) : GuS F (tdPar is tA) (gPar is f) := .mk fun {S0 φ env S n nx bk ct rt} r q =>
  p_par (ha.go r (allG_mono (fun vs n1 q S1 ds ps r1 k hp nl => by
    split at q
    · rename_i hl
      obtain ⟨o, ho, ry⟩ := r1.rely
      have hy : ∀ p ∈ ps, p ≠ F.y := fun p hpm => r.ne (hp p hpm)
      exact ⟨by rw [← newL_len nl]; exact hl, q _ _ (rely_back r1.out r1.ok ho (fold_rel is vs ds ps φ env ry (newL_y hy nl)))⟩
    · exact q.elim) (allG_bind.mp q)))
/-! ### changes -/
def gApp (i : Nat) (f : GE) : GS := fun φ => (f φ).bind fun d => (Gen.of (ownAt φ i)).bind fun xs => if xs.length < LMX then .ret (.nx (φ.set i (some (.own (.lst (xs ++ [d])))))) else .fail
theorem own_ref {i : Nat} {o : MO} (r : RelG F S0 φ env S n) (h : φ[i]? = some (some (SV.own o))) : ∃ a, env[i]? = some (some (D.ref a)) ∧ ∀ {S' : Sto} {n' : Nat}, RelG F S0 φ env S' n' → S' a = some o := by
  obtain ⟨a, h1, h2, h3⟩ := r.rel.own _ _ h
  refine ⟨a, h1, fun r' => ?_⟩
  obtain ⟨b, h4, h5, h6⟩ := r'.rel.own _ _ h
  rw [h1] at h4; cases h4
  exact h5
theorem gu_append {i : Nat} (ha : GuE F ta ga) : GuS F (tdDrop (tdLm gAppend (tdVar i) (tdCons ta tdNil))) (gApp i ga) := .mk fun {S0 φ env S n nx bk ct rt} r q => by
  have q := allG_bind.mp q
  cases e2 : ownAt φ i with
  | none =>
    exfalso
    have : ∀ {g : Gen D} {n : Nat}, AllG g n (fun a n' => AllG (Gen.bind (Gen.of (none : Option (List D))) fun xs => if xs.length < LMX then Gen.ret (Flow.nx (φ.set i (some (.own (.lst (xs ++ [a])))))) else .fail) n' (OutG F S0 ⟨nx, rt, bk, ct⟩)) → False := fun {g} => by
      induction g with
      | ret a => exact fun h => h
      | fail => exact fun h => h
      | draw m k ih => exact fun h => ih 0 (h.2.2.2 0 (Int.le_refl 0) h.1)
    rw [e2] at q
    exact this q
  | some xs =>
    have h := ownAt_some e2
    obtain ⟨a, h1, h2⟩ := own_ref r h
    rw [e2] at q
    refine p_drop (p_lm (p_var h1 (p_lmO (h2 r) (p_cons (ha.go r (allG_mono (fun d n1 q S1 k1 => p_nil ?_) q))))))
    have q : AllG (if xs.length < LMX then Gen.ret (Flow.nx (List.set φ i (some (SV.own (MO.lst (xs ++ [d])))))) else Gen.fail) n1 (OutG F S0 ⟨nx, rt, bk, ct⟩) := allG_bind.mp q
    split at q
    · rename_i hl
      refine p_lmE (h2 (r.nxt k1)) rfl (by rw [sizeLine_eq]; exact hl) ?_
      exact q _ _ ((r.nxt k1).upd h h1)
    · exact q.elim
def gExt (i : Nat) (f : GE) : GS := fun φ => (f φ).bind fun d => (Gen.of (ownAt φ i)).bind fun xs => (Gen.of (extF xs d)).bind fun zs => .ret (.nx (φ.set i (some (.own (.lst zs)))))
theorem gu_extend {i : Nat} (ha : GuE F ta ga) : GuS F (tdDrop (tdLm gExtend (tdVar i) (tdCons ta tdNil))) (gExt i ga) := .mk fun {S0 φ env S n nx bk ct rt} r q => by
  have q := allG_bind.mp q
  cases e2 : ownAt φ i with
  | none =>
    exfalso
    have : ∀ {g : Gen D} {n : Nat}, AllG g n (fun a n' => AllG (Gen.bind (Gen.of (none : Option (List D))) fun xs => (Gen.of (extF xs a)).bind fun zs => Gen.ret (Flow.nx (φ.set i (some (.own (.lst zs)))))) n' (OutG F S0 ⟨nx, rt, bk, ct⟩)) → False := fun {g} => by
      induction g with
      | ret a => exact fun h => h
      | fail => exact fun h => h
      | draw m k ih => exact fun h => ih 0 (h.2.2.2 0 (Int.le_refl 0) h.1)
    rw [e2] at q
    exact this q
  | some xs =>
    have h := ownAt_some e2
    obtain ⟨a, h1, h2⟩ := own_ref r h
    rw [e2] at q
    refine p_drop (p_lm (p_var h1 (p_lmO (h2 r) (p_cons (ha.go r (allG_mono (fun d n1 q S1 k1 => p_nil ?_) q))))))
    have q := allG_bind.mp q
    obtain ⟨zs, e3, q⟩ := allG_of (allG_bind.mp q)
    unfold extF at e3
    split at e3
    · split at e3
      · rename_i hl
        cases e3
        refine p_lmE (h2 (r.nxt k1)) (cc := _) (d := .non) rfl (lmx hl) ?_
        exact q _ _ ((r.nxt k1).upd h h1)
      · cases e3
    · cases e3
def gFreeze (i : Nat) (g : GS) : GS := fun φ => (Gen.of (ownAt φ i)).bind fun xs => g (φ.set i (some (.val (.lst xs))))
theorem gu_freeze {i : Nat} (h1 : GuS F st g1) : GuS F (tdFreeze i st) (gFreeze i g1) := .mk fun {S0 φ env S n nx bk ct rt} r q => by
  obtain ⟨xs, e1, q⟩ := allG_of (allG_bind.mp q)
  have h := ownAt_some e1
  obtain ⟨a, h2, h3⟩ := own_ref r h
  exact p_freeze h2 (h3 r) (h1.go (r.freeze h h2) q)
def gAug (i : Nat) (gf : D → D → Option D) (f : GE) : GS := fun φ => (Gen.of (fVar i φ)).bind fun x => (f φ).bind fun y => (Gen.of (gf x y)).bind fun z => .ret (.nx (φ.set i (some (.val z))))
theorem gu_aug {i : Nat} {gD : Sto → D → D → PR} {gf : D → D → Option D} (hr : RespB gD gf) (ha : GuE F ta ga) : GuS F (tdAug i ta gD) (gAug i gf ga) := .mk fun {S0 φ env S n nx bk ct rt} r q => by
  obtain ⟨x, e1, q⟩ := allG_of (allG_bind.mp q)
  have hx : env[i]? = some (some x) := by
    unfold fVar at e1
    split at e1
    · cases e1; rename_i h; exact r.rel.val _ _ h
    · cases e1
  unfold tdAug
  rw [hx]
  refine ha.go r (allG_mono (fun y n1 q S1 k1 => ?_) (allG_bind.mp q))
  obtain ⟨z, e3, q⟩ := allG_of (allG_bind.mp q)
  obtain ⟨c, e4, hc⟩ := hr .rfl .rfl e3
  exact p_r e4 hc (q _ _ ((r.nxt k1).setV i z))
def gClr (is : List Nat) (g : GS) : GS := fun φ => g (clrF φ is)
theorem gu_clr {is : List Nat} (h1 : GuS F st g1) : GuS F st (gClr is g1) := .mk fun r q => h1.go (r.clrs is) q
def gClrB (is : List Nat) (g : GS) : GS := fun φ => (g φ).bind fun w => .ret (match w with
  | .nx φ => .nx (clrF φ is)
  | .ct φ => .ct (clrF φ is)
  | .bk φ => .bk (clrF φ is)
  | .rt d => .rt d)
theorem gu_clrB {is : List Nat} (h1 : GuS F st g1) : GuS F st (gClrB is g1) := .mk fun {S0 φ env S n nx bk ct rt} r q =>
  h1.go r (allG_mono (fun w n1 q => by
    cases w with
    | nx φ1 => exact fun env1 S1 r1 => q _ _ (r1.clrs is)
    | rt d => exact q
    | bk φ1 => exact fun env1 S1 r1 => q _ _ (r1.clrs is)
    | ct φ1 => exact fun env1 S1 r1 => q _ _ (r1.clrs is)) (allG_bind.mp q))
/-! ### loops -/
def gForGo (p : TPat) (g : GS) : List D → GS
  | [], φ => .ret (.nx φ)
  | d :: r, φ => (Gen.of (bindF p d φ)).bind fun φ' => (g φ').bind fun w => match w with
    | .nx φ2 => gForGo p g r φ2
    | .ct φ2 => gForGo p g r φ2
    | .bk φ2 => .ret (.nx φ2)
    | .rt d => .ret (.rt d)
theorem gu_forGo (hg : GuS F st g1) {nx bk ct : Env' → Sto → Prop} {rt : QD} : ∀ (ds : List D) {φ : FEnv} {env : Env'} {S : Sto} {n : Nat}, RelG F S0 φ env S n → AllG (gForGo p g1 ds φ) n (OutG F S0 ⟨nx, rt, bk, ct⟩) → forD p st ds ⟨nx, rt, bk, ct⟩ env S
  | [], φ, env, S, n, r, q => q _ _ r
  | d :: rs, φ, env, S, n, r, q => by
    obtain ⟨φ', e1, q⟩ := allG_of (allG_bind.mp q)
    obtain ⟨env', h1, r1⟩ := r.bind e1
    unfold forD
    rw [h1]
    refine hg.go r1 (allG_mono (fun w n1 q => ?_) (allG_bind.mp q))
    cases w with
    | nx φ2 => exact fun env2 S2 r2 => gu_forGo hg rs r2 q
    | ct φ2 => exact fun env2 S2 r2 => gu_forGo hg rs r2 q
    | bk φ2 => exact q
    | rt d => exact q
def gFor (w : GA) (p : TPat) (g : GS) : GS := fun φ => (w φ).bind fun ds => gForGo p g ds φ
theorem gu_for {w : TID} (hw : GuI F w GA') (hg : GuS F st g1) : GuS F (tdFor w p st) (gFor GA' p g1) := .mk fun {S0 φ env S n nx bk ct rt} r q =>
  p_for (hw.go r (allG_mono (fun ds n1 q S1 k1 => gu_forGo hg ds (r.nxt k1) q) (allG_bind.mp q)))
/-! ### a display of a dict with draws -/
def gDisp (xs : List Str) (fa : GA) : GE := fun φ => (fa φ).bind fun ds => if ds.length = xs.length then .ret (.dct (xs.map D.str) ds) else .fail
theorem gu_disp {xs : List Str} (ha : GuA F tA GA') : GuE F (tdDisp xs tA) (gDisp xs GA') := .mk fun {S0 φ env S n Q} r q =>
  p_disp fun a hp => ha.go (r.fresh hp) (allG_mono (fun ds n1 q S1 k1 => by
    split at q
    · rename_i hl
      have hay := r.ne hp
      have e : S1 a = some (.dct [] []) := (k1.same a hay).trans sup_same
      refine ⟨hl, e, q _ ⟨F.loc k1.ok (sdel_ne (Ne.symm hay)), fun b hb => ?_⟩⟩
      by_cases h : b = a
      · subst h; rw [sdel_same, hp]
      · rw [sdel_ne h, k1.same b hb, sup_ne h]
    · exact q.elim) (allG_bind.mp q))
def gKGet (tbl : List (Str × D)) (ga : GE) : GE := fun φ => (ga φ).bind fun d => match d with
  | .str z => .of (tbl.lookup z)
  | _ => .fail
theorem gu_kget {tbl : List (Str × D)} (ha : GuE F ta ga) : GuE F (tdKGet tbl ta) (gKGet tbl ga) := .mk fun {S0 φ env S n Q} r q =>
  p_kget (ha.go r (allG_mono (fun d n1 q S1 k1 => by
    split at q
    · obtain ⟨z, e, q⟩ := allG_of q
      exact p_kgetS e (q S1 k1)
    · exact q.elim) (allG_bind.mp q)))
/-! ### defs that draw -/
def gnOf (k : Nat) (N : List Str) (g : GS) : List D → Gen D := fun ds => if ds.length = k then (g (startF N ds)).bind fun w => match w with
  | .rt d => .ret d
  | .nx _ => .ret .non
  | _ => .fail
  else .fail
theorem relG_start {N : List Str} {ds : List D} (h : F.ok n S) : RelG F (sdel S F.y) (startF N ds) (envStart N ds) S n where
  rel := by
    have r := rel_start (S := S) (N := N) (ds := ds)
    refine ⟨r.len, fun a o h => ?_, r.val, fun j o hj => ?_, r.inj⟩
    · by_cases e : a = F.y
      · subst e; rw [sdel_same] at h; cases h
      · rw [sdel_ne e] at h; exact h
    · obtain ⟨a, h1, h2, h3⟩ := r.own _ _ hj
      exact ⟨a, h1, h2, by by_cases e : a = F.y
                           · subst e; exact sdel_same
                           · rw [sdel_ne e]; exact h3⟩
  ok := h
  out := sdel_same
  free := fun j o hj => by
    have r := rel_start (S := S) (N := N) (ds := ds)
    obtain ⟨a, h1, h2, h3⟩ := r.own _ _ hj
    rw [h3] at h2; cases h2
theorem keepG {S S' : Sto} {n' : Nat} {Q : Sto → Prop} (hb : ∀ a o, sdel S F.y a = some o → S' a = some o) (ok : F.ok n' S') (q : ∀ S', F.ok n' S' → (∀ a, a ≠ F.y → S' a = S a) → Q S') : ∃ s', SLe s' S' ∧ Q s' := by
  obtain ⟨o, ho⟩ := F.here ok
  refine ⟨sup (sdel S F.y) F.y o, fun a o' h => ?_, q _ (F.loc ok (sup_same.trans ho.symm)) fun a ha => by rw [sup_ne ha, sdel_ne ha]⟩
  by_cases e : a = F.y
  · subst e; rw [sup_same] at h; cases h; exact ho
  · rw [sup_ne e] at h; exact hb a o' h
theorem pureG_mk {k : Nat} {N : List Str} {r : TSD} {g : GS} (h : GuS F r g) : PureG F (mkSp k N (tdG r)) (gnOf k N g) := .mk fun {ds S n Q} ok q => by
  unfold gnOf at q
  split at q
  · refine mkSp_of (by assumption) ?_
    unfold tdG
    refine h.go (relG_start ok) (allG_mono (fun w n' q => ?_) (allG_bind.mp q))
    cases w with
    | rt d => exact fun S' hb ok' => keepG hb ok' q
    | nx φ => exact fun env' S' r' => keepG r'.rel.base r'.ok q
    | bk φ => exact q.elim
    | ct φ => exact q.elim
  · exact q.elim
theorem pureG_dead : PureG F spDead (fun _ => .fail) := .mk fun _ q => q.elim
/-- a draw -/
def drawG (y : Addr) : List D → Gen D
  | [.ref a, .int m] => if a = y then .draw m fun i => .ret (.int i) else .fail
  | _ => .fail
end
end PL

namespace PL
open PySem PySem.Spec PyProof.Rows L2
section
variable {S : Sto} {Q : QD} {i j : Int}
theorem natAbs_mul_lt {i j : Int} {a b : Nat} (h : i.natAbs < 2 ^ a) (h2 : j.natAbs < 2 ^ b) : (i * j).natAbs < 2 ^ (a + b) := by
  rw [Int.natAbs_mul, Nat.pow_add]
  exact Nat.mul_lt_mul'' h h2
/-- a product told by its size alone -/
theorem p_mulZA (h : i.natAbs < 2 ^ 45) (h2 : j.natAbs < 2 ^ 45) (q : ∀ z : Int, z.natAbs < 2 ^ 90 → Q (.int z) S) : rdP mulD (.int i) (.int j) S Q := p_mulI (Nat.lt_of_lt_of_le h (by decide)) (Nat.lt_of_lt_of_le h2 (by decide)) (q _ (natAbs_mul_lt h h2))
theorem p_mulZB (h : i.natAbs < 2 ^ 100) (h2 : j.natAbs < 2 ^ 46) (q : ∀ z : Int, z.natAbs < 2 ^ 146 → Q (.int z) S) : rdP mulD (.int i) (.int j) S Q := p_mulI (Nat.lt_of_lt_of_le h (by decide)) (Nat.lt_of_lt_of_le h2 (by decide)) (q _ (natAbs_mul_lt h h2))
theorem p_mulZC (h : i.natAbs < 2 ^ 46) (h2 : j.natAbs < 2 ^ 100) (q : ∀ z : Int, z.natAbs < 2 ^ 146 → Q (.int z) S) : rdP mulD (.int i) (.int j) S Q := p_mulI (Nat.lt_of_lt_of_le h (by decide)) (Nat.lt_of_lt_of_le h2 (by decide)) (q _ (natAbs_mul_lt h h2))
theorem p_mulZD (h : i.natAbs < 2 ^ 240) (h2 : j.natAbs < 2 ^ 240) (q : ∀ z : Int, Q (.int z) S) : rdP mulD (.int i) (.int j) S Q := p_r (d := .int (i * j)) rfl (mul_ok h h2 (by decide) (by decide) (by decide)) (q _)
theorem cfd {i j : Int} (h : 0 < j) (h2 : j < 1073741824) : CFd i j := .inl ⟨by omega, by omega⟩
theorem p_fdivC (h : 0 < j) (h2 : j < 1073741824) (q : Q (.int (i.fdiv j)) S) : rdP fdivD (.int i) (.int j) S Q := p_fdiv (cfd h h2) q
theorem feed_cells {ns : List Int} (hns : ns.length ≤ 63) : cutD (ns.map D.int) none (some 63) = ns.map D.int := by
  refine cut_whole ⟨rfl, ?_⟩
  show HT.sIx _ _ (some ((63 : Nat) : Int)) = _
  rw [HT.sIx_nat, List.length_map]
  omega
/-- the cell of a count -/
theorem p_cell {ns : List Int} {c : Int} (hn : ns ≠ []) (q : ∀ z : Int, Q (.int z) S) : ∀ k : Int, k = c.fmod ((ns.map D.int).length : Int) → rdP ixD (.lst (ns.map D.int)) (.int k) S Q := fun k e => by
  subst e
  have hp : 0 < ns.length := by cases ns with
    | nil => exact (hn rfl).elim
    | cons a r => simp
  have hl : (ns.map D.int).length = ns.length := by simp
  have h0 : 0 ≤ c.fmod ((ns.map D.int).length : Int) := fmod_lo (by rw [hl]; omega)
  have h1 : c.fmod ((ns.map D.int).length : Int) < ns.length := by
    have := fmod_hi (a := c) (m := ((ns.map D.int).length : Int)) (by rw [hl]; omega)
    omega
  obtain ⟨z, hz⟩ := atI_map h0 h1
  exact p_ixQ rfl hz (q z)
/-- cells, a count, what is left of a great one -/
def feed3 (ns : List Int) (y : Addr) : Feed where
  y := y
  ok := fun n S => ∃ (at' : Nat) (left : Int), S y = some (.lst [.lst (ns.map D.int), .int at', .int left]) ∧ at' ≤ n
  here := fun ⟨a, l, h, _⟩ => ⟨_, h⟩
  loc := fun ⟨a, l, h, k⟩ e => ⟨a, l, e.trans h, k⟩
/-- cells, a count, what is left, a count of draws -/
def feed4 (ns : List Int) (y : Addr) : Feed where
  y := y
  ok := fun n S => ∃ (at' : Nat) (left : Int) (t : Nat), S y = some (.lst [.lst (ns.map D.int), .int at', .int left, .int t]) ∧ at' ≤ n ∧ t ≤ n
  here := fun ⟨a, l, t, h, _⟩ => ⟨_, h⟩
  loc := fun ⟨a, l, t, h, k⟩ e => ⟨a, l, t, e.trans h, k⟩
/-- cells, what is left, a count of draws, a count of cells -/
def feedY (ns : List Int) (y : Addr) : Feed where
  y := y
  ok := fun n S => Yn ns y n S
  here := fun ⟨a, c, t, h, _⟩ => ⟨_, h⟩
  loc := fun ⟨a, c, t, h, k⟩ e => ⟨a, c, t, e.trans h, k⟩
theorem draw_mk {F : Feed} {N : List Str} {r : TSD}
    (h : ∀ {m : Int} {n : Nat} {S : Sto} {Q : QD}, F.ok n S → 0 < m → m < 1073741824 → n < DMX → (∀ k S', 0 ≤ k → k < m → F.ok (n + 1) S' → (∀ a, a ≠ F.y → S' a = S a) → Q (.int k) S') → r ⟨fun _ S' => Q .non S', Q, fun _ _ => False, fun _ _ => False⟩ (envStart N [.ref F.y, .int m]) S) : PureG F (mkSp 2 N r) (drawG F.y) := .mk fun {ds S n Q} ok q => by
  unfold drawG at q
  split at q
  · rename_i a m
    split at q
    · rename_i e
      subst e
      exact mkSp_of rfl (h ok q.1 q.2.1 q.2.2.1 fun k S' k0 k1 ok' hs => q.2.2.2 k k0 k1 S' ok' hs)
    · exact q.elim
  · exact q.elim
/-- the rest of a law, behind its feed -/
theorem law_rest {F : Feed} {rest : TSD} {gr : GS} {φ : FEnv} {env : Env'} {S : Sto} (hg : GuS F rest gr) (hr : Rel emptyS φ env S) (hf : ∀ (j : Nat) (o : MO), φ[j]? ≠ some (some (SV.own o))) (ok : F.ok 0 S)
    (hall : AllG (gr φ) 0 fun w _ => w = .rt (.bl true)) : rest ⟨fun _ S' => (fun d _ => d = .bl true) D.non S', fun d _ => d = .bl true, fun _ _ => False, fun _ _ => False⟩ env S :=
  hg.go ⟨hr, ok, rfl, fun j o h => (hf j o h).elim⟩ (allG_mono (fun w n e => by subst e; exact fun _ _ _ => rfl) hall)
end
end PL

namespace PL
open PySem PySem.Spec PyProof.Rows L2
/-! ### reading trees of draws, step by step -/
section
variable {α β : Type} {φ φ1 : FEnv} {n : Nat} {K : D → Nat → Prop} {KB : Bool → Nat → Prop} {KA : List D → Nat → Prop} {KW : Flow → Nat → Prop} {KV : List SV → Nat → Prop} {KM : MO → Nat → Prop} {KO : Option Int → Nat → Prop} {ga gb : GE} {fa fb : FE} {gA' gK : GA} {fA : FA} {gt gu : GT} {ft : FT} {g h : GS} {fs : FS} {p : TPat} {d x : D} {w : Flow} {b : Bool} {ds xs : List D} {gf : D → D → Option D} {i : Nat}
/-- what a tree comes to, and how many draws it takes at most -/
structure Spec {α : Type} (g : Gen α) (c : Nat) (P : α → Prop) : Prop where
  run : ∀ {n : Nat} {Q : α → Nat → Prop}, n + c ≤ DMX → (∀ a n', n' ≤ n + c → P a → Q a n') → AllG g n Q
theorem Spec.mono {g : Gen α} {c c' : Nat} {P P' : α → Prop} (h : Spec g c P) (hc : c ≤ c') (hp : ∀ a, P a → P' a) : Spec g c' P' := .mk fun hn q => h.run (by omega) fun a n' l p => q a n' (by omega) (hp a p)
theorem Spec.ret {a : α} {c : Nat} {P : α → Prop} (h : P a) : Spec (.ret a) c P := .mk fun hn q => q _ _ (by omega) h
theorem Spec.of {o : Option α} {a : α} {c : Nat} {P : α → Prop} (e : o = some a) (h : P a) : Spec (.of o) c P := by subst e; exact Spec.ret h
theorem Spec.bind {g : Gen α} {f : α → Gen β} {c1 c2 : Nat} {P : α → Prop} {P' : β → Prop} (h : Spec g c1 P) (k : ∀ a, P a → Spec (f a) c2 P') : Spec (g.bind f) (c1 + c2) P' := .mk fun hn q =>
  allG_bind.mpr (h.run (by omega) fun a n' l p => (k a p).run (by omega) fun b n2 l2 p2 => q b n2 (by omega) p2)
/-- from all that may be drawn -/
theorem spec_of {g : Gen α} {c : Nat} {P : α → Prop} (h : ∀ n (Q : α → Nat → Prop), n + c ≤ DMX → (∀ a n', n' ≤ n + c → P a → Q a n') → AllG g n Q) : Spec g c P := .mk fun {n Q} a b => h n Q a b
theorem bof {α β : Type} {o : Option α} {a : α} {f : α → Gen β} {n : Nat} {K : β → Nat → Prop} (e : o = some a) (q : AllG (f a) n K) : AllG ((Gen.of o).bind f) n K := by rw [e]; exact q
theorem s_nx (q : AllG (h φ1) n KW) : AllG ((Flow.nx φ1).gg h) n KW := q
theorem s_rt (q : KW (.rt d) n) : AllG ((Flow.rt d).gg h) n KW := q
theorem s_bk (q : KW (.bk φ1) n) : AllG ((Flow.bk φ1).gg h) n KW := q
theorem s_ct (q : KW (.ct φ1) n) : AllG ((Flow.ct φ1).gg h) n KW := q
theorem s_seq (q : AllG (g φ) n fun w n' => AllG (w.gg h) n' KW) : AllG (gSeq g h φ) n KW := allG_bind.mpr q
theorem s_S (e : fs φ = some w) (q : KW w n) : AllG (gS fs φ) n KW := by unfold gS; rw [e]; exact q
theorem s_E (e : fa φ = some d) (q : K d n) : AllG (gE fa φ) n K := by unfold gE; rw [e]; exact q
theorem s_T (e : ft φ = some b) (q : KB b n) : AllG (gT ft φ) n KB := by unfold gT; rw [e]; exact q
theorem s_A (e : fA φ = some ds) (q : KA ds n) : AllG (gA fA φ) n KA := by unfold gA; rw [e]; exact q
theorem s_O {f : FEnv → Option (Option Int)} {o : Option Int} (e : f φ = some o) (q : KO o n) : AllG (gO f φ) n KO := by unfold gO; rw [e]; exact q
theorem s_N {f : FEnv → Option MO} {o : MO} (e : f φ = some o) (q : KM o n) : AllG (gN f φ) n KM := by unfold gN; rw [e]; exact q
theorem s_of {o : Option α} {a : α} {K : α → Nat → Prop} (e : o = some a) (q : K a n) : AllG (Gen.of o) n K := by rw [e]; exact q
theorem s_retv {a : α} {K : α → Nat → Prop} (q : K a n) : AllG (Gen.ret a) n K := q
theorem s_cons (q : AllG (ga φ) n fun x n1 => AllG (gA' φ) n1 fun xs n2 => KA (x :: xs) n2) : AllG (gCons ga gA' φ) n KA := allG_bind.mpr (allG_mono (fun x n1 q => allG_bind.mpr q) q)
theorem s_tup (q : AllG (gA' φ) n fun ds n1 => ds.length ≤ LMX ∧ K (.tup ds) n1) : AllG (gTup gA' φ) n K := allG_bind.mpr (allG_mono (fun x n1 q => by rw [if_pos q.1]; exact q.2) q)
theorem s_lst (q : AllG (gA' φ) n fun ds n1 => ds.length ≤ LMX ∧ K (.lst ds) n1) : AllG (gLst gA' φ) n K := allG_bind.mpr (allG_mono (fun x n1 q => by rw [if_pos q.1]; exact q.2) q)
theorem s_op (q : AllG (ga φ) n fun x n1 => AllG (gb φ) n1 fun y n2 => AllG (Gen.of (gf x y)) n2 K) : AllG (gOp gf ga gb φ) n K := allG_bind.mpr (allG_mono (fun x n1 q => allG_bind.mpr q) q)
theorem s_opV (e : fVarB i φ = some x) (q : AllG (gb φ) n fun y n2 => AllG (Gen.of (gf x y)) n2 K) : AllG (gOpV gf i gb φ) n K := by
  exact bof e (allG_bind.mpr q)
theorem s_cb {gc : List D → Option D} (q : AllG (gA' φ) n fun ds n1 => AllG (Gen.of (gc ds)) n1 K) : AllG (gCB gc gA' φ) n K := allG_bind.mpr q
theorem s_un {gc : D → Option D} (q : AllG (ga φ) n fun x n1 => AllG (Gen.of (gc x)) n1 K) : AllG (gUn gc ga φ) n K := allG_bind.mpr q
def boolG (KB : Bool → Nat → Prop) : D → Nat → Prop := fun d n => match d with
  | .bl b => KB b n
  | _ => False
theorem s_b (q : AllG (ga φ) n (boolG KB)) : AllG (gB ga φ) n KB := allG_bind.mpr (allG_mono (fun x n1 q => by
  unfold boolG at q
  split at q
  · exact q
  · exact q.elim) q)
theorem s_bl (q : KB b n) : boolG KB (.bl b) n := q
theorem s_and (q : AllG (gt φ) n fun b n1 => if b = true then AllG (gu φ) n1 KB else KB false n1) : AllG (gAnd gt gu φ) n KB := allG_bind.mpr (allG_mono (fun b n1 q => by cases b <;> exact q) q)
theorem s_or (q : AllG (gt φ) n fun b n1 => if b = true then KB true n1 else AllG (gu φ) n1 KB) : AllG (gOr gt gu φ) n KB := allG_bind.mpr (allG_mono (fun b n1 q => by cases b <;> exact q) q)
theorem s_not (q : AllG (gt φ) n fun b n1 => KB (!b) n1) : AllG (gNot gt φ) n KB := allG_bind.mpr q
theorem s_if (q : AllG (gt φ) n fun b n1 => if b = true then AllG (ga φ) n1 K else AllG (gb φ) n1 K) : AllG (gIf gt ga gb φ) n K := allG_bind.mpr (allG_mono (fun b n1 q => by cases b <;> exact q) q)
theorem s_ifS (q : AllG (gt φ) n fun b n1 => if b = true then AllG (g φ) n1 KW else AllG (h φ) n1 KW) : AllG (gIfS gt g h φ) n KW := allG_bind.mpr (allG_mono (fun b n1 q => by cases b <;> exact q) q)
theorem s_ret (q : AllG (ga φ) n fun d n1 => KW (.rt d) n1) : AllG (gRet ga φ) n KW := allG_bind.mpr q
theorem s_drop (q : AllG (ga φ) n fun d n1 => KW (.nx φ) n1) : AllG (gDrop ga φ) n KW := allG_bind.mpr q
theorem s_asg (q : AllG (ga φ) n fun d n1 => AllG (Gen.of (bindF p d φ)) n1 fun φ' n2 => KW (.nx φ') n2) : AllG (gAsg ga p φ) n KW := allG_bind.mpr (allG_mono (fun x n1 q => allG_bind.mpr q) q)
theorem s_newL (q : AllG (gA' φ) n fun ds n1 => ds.length ≤ LMX ∧ KM (.lst ds) n1) : AllG (gNewL gA' φ) n KM := allG_bind.mpr (allG_mono (fun x n1 q => by rw [if_pos q.1]; exact q.2) q)
theorem s_newAdd (q : AllG (ga φ) n fun x n1 => AllG (gb φ) n1 fun y n2 => AllG (Gen.of (newAddF x y)) n2 KM) : AllG (gNewAdd ga gb φ) n KM := allG_bind.mpr (allG_mono (fun x n1 q => allG_bind.mpr q) q)
theorem s_newAddV (e : fVarB i φ = some x) (q : AllG (gb φ) n fun y n2 => AllG (Gen.of (newAddF x y)) n2 KM) : AllG (gNewAddV i gb φ) n KM := by
  exact bof e (allG_bind.mpr q)
theorem s_asgN {gm : FEnv → Gen MO} (q : AllG (gm φ) n fun o n1 => KW (.nx (φ.set i (some (.own o)))) n1) : AllG (gAsgN gm i φ) n KW := allG_bind.mpr q
theorem s_vnil (q : KV [] n) : AllG (gVNil φ) n KV := q
theorem s_vval {gv : GV} (q : AllG (ga φ) n fun x n1 => AllG (gv φ) n1 fun xs n2 => KV (.val x :: xs) n2) : AllG (gVVal ga gv φ) n KV := allG_bind.mpr (allG_mono (fun x n1 q => allG_bind.mpr q) q)
theorem s_vown {gm : FEnv → Gen MO} {gv : GV} (q : AllG (gm φ) n fun x n1 => AllG (gv φ) n1 fun xs n2 => KV (.own x :: xs) n2) : AllG (gVOwn gm gv φ) n KV := allG_bind.mpr (allG_mono (fun x n1 q => allG_bind.mpr q) q)
theorem s_par {is : List Nat} {gv : GV} (q : AllG (gv φ) n fun vs n1 => vs.length = is.length ∧ KW (.nx (setsF is vs φ)) n1) : AllG (gPar is gv φ) n KW := allG_bind.mpr (allG_mono (fun x n1 q => by rw [if_pos q.1]; exact q.2) q)
theorem s_app (q : AllG (ga φ) n fun d n1 => ∃ xs, ownAt φ i = some xs ∧ xs.length < LMX ∧ KW (.nx (φ.set i (some (.own (.lst (xs ++ [d])))))) n1) : AllG (gApp i ga φ) n KW := allG_bind.mpr (allG_mono (fun x n1 ⟨xs, e, hl, q⟩ => by
  rw [e]
  show AllG (if xs.length < LMX then _ else _) n1 KW
  rw [if_pos hl]; exact q) q)
theorem s_ext (q : AllG (ga φ) n fun d n1 => ∃ xs zs, ownAt φ i = some xs ∧ extF xs d = some zs ∧ KW (.nx (φ.set i (some (.own (.lst zs))))) n1) : AllG (gExt i ga φ) n KW := allG_bind.mpr (allG_mono (fun x n1 ⟨xs, zs, e, e2, q⟩ => by
  rw [e]
  show AllG ((Gen.of (extF xs x)).bind _) n1 KW
  rw [e2]; exact q) q)
theorem s_freeze (e : ownAt φ i = some xs) (q : AllG (g (φ.set i (some (.val (.lst xs))))) n KW) : AllG (gFreeze i g φ) n KW := by
  unfold gFreeze
  rw [e]; exact q
theorem s_aug (e : fVar i φ = some x) (q : AllG (ga φ) n fun y n1 => AllG (Gen.of (gf x y)) n1 fun z n2 => KW (.nx (φ.set i (some (.val z)))) n2) : AllG (gAug i gf ga φ) n KW := by
  exact bof e (allG_bind.mpr (allG_mono (fun x n1 q => allG_bind.mpr q) q))
theorem s_clr {is : List Nat} (q : AllG (g (clrF φ is)) n KW) : AllG (gClr is g φ) n KW := q
abbrev clrW (is : List Nat) : Flow → Flow
  | .nx φ => .nx (clrF φ is)
  | .ct φ => .ct (clrF φ is)
  | .bk φ => .bk (clrF φ is)
  | .rt d => .rt d
theorem s_clrB {is : List Nat} (q : AllG (g φ) n fun w n1 => KW (clrW is w) n1) : AllG (gClrB is g φ) n KW := allG_bind.mpr (allG_mono (fun w n1 q => by cases w <;> exact q) q)
theorem s_for (q : AllG (gA' φ) n fun ds n1 => AllG (gForGo p g ds φ) n1 KW) : AllG (gFor gA' p g φ) n KW := allG_bind.mpr q
theorem s_seqI (q : AllG (ga φ) n fun d n1 => AllG (Gen.of (seqV d)) n1 KA) : AllG (gSeqI ga φ) n KA := allG_bind.mpr q
theorem s_rng1 (q : AllG (gA' φ) n fun d n1 => AllG (Gen.of (rngF1 d)) n1 KA) : AllG (gRng1 gA' φ) n KA := allG_bind.mpr q
theorem s_call {gn : List D → Gen D} (q : AllG (gA' φ) n fun ds n1 => AllG (gn ds) n1 K) : AllG (gCall gn gA' φ) n K := allG_bind.mpr q
theorem s_callK {gn : List D → Gen D} {k m : Nat} {pm : List Nat} (q : AllG (gA' φ) n fun ds n1 => AllG (gK φ) n1 fun zs n2 => (ds.length = k ∧ zs.length = m) ∧ AllG (gn (pick pm (ds ++ zs))) n2 K) : AllG (gCallK gn k m pm gA' gK φ) n K :=
  allG_bind.mpr (allG_mono (fun x n1 q => allG_bind.mpr (allG_mono (fun y n2 q => by rw [if_pos q.1]; exact q.2) q)) q)
theorem s_draw {y : Addr} {m : Int} (hm : 0 < m) (hm2 : m < 1073741824) (hn : n < 1000000000) (q : ∀ i, 0 ≤ i → i < m → K (.int i) (n + 1)) : AllG (drawG y [.ref y, .int m]) n K := by
  have e : drawG y [.ref y, .int m] = .draw m fun i => .ret (.int i) := by
    show (if y = y then _ else _) = _
    rw [if_pos rfl]
  rw [e]
  exact ⟨hm, hm2, hn, q⟩
def partG (KO : Option Int → Nat → Prop) : D → Nat → Prop := fun d n => match d with
  | .int i => KO (some i) n
  | _ => False
theorem s_part (q : AllG (ga φ) n (partG KO)) : AllG (gPart ga φ) n KO := allG_bind.mpr (allG_mono (fun x n1 q => by
  unfold partG at q
  split at q
  · exact q
  · exact q.elim) q)
theorem s_partI {i : Int} (q : KO (some i) n) : partG KO (.int i) n := q
theorem s_sl {fl fh : FEnv → Gen (Option Int)} (q : AllG (ga φ) n fun x n1 => AllG (fl φ) n1 fun lo n2 => AllG (fh φ) n2 fun hi n3 => AllG (Gen.of (slF lo hi x)) n3 K) : AllG (gSl ga fl fh φ) n K :=
  allG_bind.mpr (allG_mono (fun x n1 q => allG_bind.mpr (allG_mono (fun y n2 q => allG_bind.mpr q) q)) q)
theorem s_lc {c : GT} {own : List Nat} (q : AllG (gA' φ) n fun ds n1 => ds.length < LMX ∧ AllG (gLcGo p c ga (wipeF φ own) ds) n1 fun out n2 => K (.lst out) n2) : AllG (gLc gA' p c ga own φ) n K :=
  allG_bind.mpr (allG_mono (fun x n1 q => by rw [if_pos q.1]; exact allG_bind.mpr q.2) q)
theorem s_disp {xs : List Str} (q : AllG (gA' φ) n fun ds n1 => ds.length = xs.length ∧ K (.dct (xs.map D.str) ds) n1) : AllG (gDisp xs gA' φ) n K := allG_bind.mpr (allG_mono (fun x n1 q => by rw [if_pos q.1]; exact q.2) q)
def fnK (K : D → Nat → Prop) : Flow → Nat → Prop := fun w n1 => match w with
  | .rt d => K d n1
  | .nx _ => K .non n1
  | _ => False
theorem s_fn {k : Nat} {N : List Str} {ds : List D} (hl : ds.length = k) (q : AllG (g (startF N ds)) n (fnK K)) : AllG (gnOf k N g ds) n K := by
  unfold gnOf
  rw [if_pos hl]
  exact allG_bind.mpr (allG_mono (fun w n1 q => by cases w <;> exact q) q)
theorem s_fnR (q : K d n) : fnK K (.rt d) n := q
theorem s_fnN (q : K .non n) : fnK K (.nx φ) n := q
theorem s_ite {A B : Prop} (q1 : b = true → A) (q2 : b = false → B) : if b = true then A else B := by
  cases b with
  | true => rw [if_pos rfl]; exact q1 rfl
  | false => rw [if_neg Bool.false_ne_true]; exact q2 rfl
/-- a walk in which each turn comes back to the same frame -/
theorem spec_for {φ0 : FEnv} {c : Nat} : ∀ {ds : List D}, (∀ d ∈ ds, ∃ φ', bindF p d φ0 = some φ' ∧ Spec (g φ') c fun w => w = .nx φ0) → Spec (gForGo p g ds φ0) (ds.length * c) fun w => w = .nx φ0
  | [], _ => Spec.ret rfl
  | d :: r, h => .mk fun {n Q} hn q => by
    obtain ⟨φ', e, hs⟩ := h d (by simp)
    rw [List.length_cons, Nat.add_mul, Nat.one_mul] at hn q
    refine bof e ?_
    refine allG_bind.mpr (hs.run (by omega) fun w n1 l e => ?_)
    subst e
    exact (spec_for fun d' hd => h d' (by simp [hd])).run (by omega) fun w n2 l2 e => q w n2 (by omega) e
/-- a walk with a word that holds ahead of each turn -/
theorem spec_forI {c : Nat} (I : Nat → FEnv → Prop) : ∀ {ds : List D} {k : Nat} {φ0 : FEnv}, I k φ0 → (∀ i d φ, ds[i]? = some d → I (k + i) φ → ∃ φ', bindF p d φ = some φ' ∧ Spec (g φ') c fun w => ∃ φ2, w = .nx φ2 ∧ I (k + i + 1) φ2) → Spec (gForGo p g ds φ0) (ds.length * c) fun w => ∃ φ2, w = .nx φ2 ∧ I (k + ds.length) φ2
  | [], k, φ0, h0, _ => Spec.ret ⟨_, rfl, h0⟩
  | d :: r, k, φ0, h0, h => .mk fun {n Q} hn q => by
    obtain ⟨φ', e, hs⟩ := h 0 d φ0 rfl h0
    rw [List.length_cons, Nat.add_mul, Nat.one_mul] at hn q
    refine bof e ?_
    refine allG_bind.mpr (hs.run (by omega) fun w n1 l ⟨φ2, e, h2⟩ => ?_)
    subst e
    refine (spec_forI (c := c) I (k := k + 1) h2 fun i d' φ hd hi => ?_).run (by omega) fun w n2 l2 ⟨φ3, e, h3⟩ => q w n2 (by omega) ⟨φ3, e, by rw [show k + (r.length + 1) = k + 1 + r.length by omega]; exact h3⟩
    have := h (i + 1) d' φ (by simpa using hd) (by rw [show k + (i + 1) = k + 1 + i by omega]; exact hi)
    rw [show k + (i + 1) + 1 = k + 1 + i + 1 by omega] at this
    exact this
/-- a comprehension: what each turn makes -/
theorem spec_lc {ct : GT} {φ0 : FEnv} {c : Nat} {P : D → Prop} : ∀ {ds : List D}, (∀ d ∈ ds, ∃ φ', bindF p d φ0 = some φ' ∧ ct φ' = .ret true ∧ Spec (ga φ') c P) → Spec (gLcGo p ct ga φ0 ds) (ds.length * c) fun out => out.length = ds.length ∧ ∀ x ∈ out, P x
  | [], _ => Spec.ret ⟨rfl, fun _ h => nomatch h⟩
  | d :: r, h => .mk fun {n Q} hn q => by
    obtain ⟨φ', e, et, hs⟩ := h d (by simp)
    rw [List.length_cons, Nat.add_mul, Nat.one_mul] at hn q
    refine bof e ?_
    rw [et]
    show AllG ((ga φ').bind fun y => (gLcGo p ct ga φ0 r).bind fun ys => Gen.ret (y :: ys)) n Q
    refine allG_bind.mpr (hs.run (by omega) fun y n1 l py => allG_bind.mpr ?_)
    exact (spec_lc fun d' hd => h d' (by simp [hd])).run (by omega) fun out n2 l2 ⟨e1, e2⟩ => q _ n2 (by omega) ⟨by simp [e1], fun x hx => by
      rcases List.mem_cons.mp hx with rfl | hx
      · exact py
      · exact e2 x hx⟩
end
end PL

namespace PL
open PySem PySem.Spec PyProof.Rows L2
/-! ### reading pure defs, step by step -/
section
variable {α β : Type} {φ : FEnv} {o : Option α} {a : α} {f : α → Option β} {r : Option β} {b : Bool}
theorem e_bind (e : o = some a) (q : f a = r) : o.bind f = r := by rw [e]; exact q
theorem e_map {g : α → β} {c : β} (e : o = some a) (q : g a = c) : o.map g = some c := by rw [e, ← q]; rfl
theorem e_if1 {A B : Option β} (h : b = true) (q : A = r) : (if b = true then A else B) = r := by rw [if_pos h]; exact q
theorem e_if0 {A B : Option β} (h : b = false) (q : B = r) : (if b = true then A else B) = r := by rw [if_neg (by rw [h]; exact Bool.false_ne_true)]; exact q
theorem e_lm {A : Option β} {m : Nat} (h : m ≤ LMX) (q : A = r) : (if m ≤ LMX then A else none) = r := by rw [if_pos h]; exact q
theorem e_B {fa : FE} (e : fa φ = some (.bl b)) : fB fa φ = some b := by unfold fB; rw [e]
theorem e_part {fa : FE} {i : Int} (e : fa φ = some (.int i)) : fPart fa φ = some (some i) := by unfold fPart; rw [e]
theorem e_fn {k : Nat} {N : List Str} {g : FS} {ds : List D} {d : D} (hl : ds.length = k) (e : g (startF N ds) = some (.rt d)) : fnOf k N g ds = some d := by
  unfold fnOf
  rw [if_pos hl, e]
theorem e_fn0 {k : Nat} {N : List Str} {g : FS} {ds : List D} {φ' : FEnv} (hl : ds.length = k) (e : g (startF N ds) = some (.nx φ')) : fnOf k N g ds = some .non := by
  unfold fnOf
  rw [if_pos hl, e]
theorem e_kin {neg : Bool} {tbl : List (Str × D)} {fa : FE} {z : Str} (e : fa φ = some (.str z)) (h : (if neg then !(tbl.lookup z).isSome else (tbl.lookup z).isSome) = b) : fKIn neg tbl fa φ = some (.bl b) := by
  unfold fKIn; rw [e]; subst h; rfl
theorem e_kget {tbl : List (Str × D)} {fa : FE} {z : Str} {d : D} (e : fa φ = some (.str z)) (h : tbl.lookup z = some d) : fKGet tbl fa φ = some d := by
  unfold fKGet; rw [e]; exact h
end
theorem mulF_ok {i j : Int} (h : i.natAbs < MB) (h2 : j.natAbs < MB) : mulF (.int i) (.int j) = some (.int (i * j)) := by
  unfold mulF
  exact if_pos ⟨h, h2⟩
theorem fdivF_ok {i j : Int} (h : j ≠ 0) (h2 : j.natAbs < MB) : fdivF (.int i) (.int j) = some (.int (i.fdiv j)) := by
  show (if _ then _ else _) = _
  rw [if_pos]
  rw [Bool.and_eq_true, decide_eq_true_iff, decide_eq_true_iff]
  exact ⟨h, h2⟩
theorem okD_tup {ds : List D} (h : ∀ d ∈ ds, okD d = true) (n : ds.length ≤ 100000) : True := trivial
theorem eqF_int {neg : Bool} {i j : Int} {b : Bool} (h : (if neg then !decide (i = j) else decide (i = j)) = b) : eqF neg (.int i) (.int j) = some (.bl b) := by
  show (if _ then _ else _) = _
  rw [if_pos ⟨rfl, rfl⟩, eqD_int, h]
end PL
namespace PL
open PySem PySem.Spec PyProof.Rows L2
theorem atI_mem {α : Type} {ds : List α} {k : Int} (h0 : 0 ≤ k) (h1 : k < ds.length) : ∃ d, atI ds k = some d ∧ d ∈ ds := by
  refine ⟨ds[k.toNat]'(by omega), ?_, List.getElem_mem _⟩
  unfold L2.atI ixN
  rw [if_pos h0, if_pos h1]
  show ds[k.toNat]? = _
  rw [List.getElem?_eq_getElem (by omega)]
theorem s_ixL {ds : List D} {k : Int} {n : Nat} {K : D → Nat → Prop} (h0 : 0 ≤ k) (h1 : k < ds.length) (q : ∀ d, d ∈ ds → K d n) : AllG (Gen.of (ixF (.lst ds) (.int k))) n K := by
  obtain ⟨d, e, hd⟩ := atI_mem h0 h1
  exact s_of (show atI ds k = some d from e) (q d hd)
theorem s_ixT {ds : List D} {k : Int} {n : Nat} {K : D → Nat → Prop} (h0 : 0 ≤ k) (h1 : k < ds.length) (q : ∀ d, d ∈ ds → K d n) : AllG (Gen.of (ixF (.tup ds) (.int k))) n K := by
  obtain ⟨d, e, hd⟩ := atI_mem h0 h1
  exact s_of (show atI ds k = some d from e) (q d hd)
theorem eqD_z {i : Int} {b : Bool} (h : eqD (.int i) (.int 0) = b) : decide (i = 0) = b := by rw [← h, eqD_int]
end PL
namespace PL
open PySem PySem.Spec PyProof.Rows L2
theorem vals_get {vs : List (Option D)} {i : Nat} {v : SV} (h : (vs.map fun o => o.map SV.val)[i]? = some (some v)) : ∃ d, v = .val d ∧ vs[i]? = some (some d) := by
  rw [List.getElem?_map] at h
  cases q : vs[i]? with
  | none => rw [q] at h; cases h
  | some o =>
    rw [q] at h
    cases o with
    | none => cases h
    | some d => cases h; exact ⟨d, rfl, rfl⟩
/-- the rest of a law, behind its feed: from its tree of draws -/
theorem law_rest' {F : Feed} {rest : TSD} {gr : GS} {vs : List (Option D)} {S : Sto} (hg : GuS F rest gr) (ok : F.ok 0 S)
    (hall : AllG (gr (vs.map fun o => o.map SV.val)) 0 fun w _ => w = .rt (.bl true)) : rest ⟨fun _ S' => (fun d _ => d = .bl true) D.non S', fun d _ => d = .bl true, fun _ _ => False, fun _ _ => False⟩ vs S :=
  law_rest hg (by
    refine ⟨by simp, fun a o h => (by cases h), fun i d h => ?_, fun i o h => ?_, fun i j o o' a h => ?_⟩
    · obtain ⟨d', e, h⟩ := vals_get h
      cases e; exact h
    · obtain ⟨d', e, h⟩ := vals_get h
      cases e
    · obtain ⟨d', e, h⟩ := vals_get h
      cases e) (fun j o h => by
    obtain ⟨d', e, h⟩ := vals_get h
    cases e) ok hall
theorem Okd.reprB {d : D} {k w : Nat} (h : Okd d k w) (l : k ≤ 64 := by decide) (m : w ≤ 16000000 := by decide) : PL.reprB d = true := by
  have := h.repr l m
  unfold PL.reprB
  rw [this.1, this.2.1, this.2.2.1, decide_eq_true (by have := this.2.2.2.1; rw [sizeLine_eq] at this; exact this), decide_eq_true this.2.2.2.2]
  rfl
theorem reprF_ok {d : D} (h : PL.reprB d = true) : reprF [d] = some (.str (pyd d).shown) := by
  show (if PL.reprB d = true then _ else _) = _
  rw [if_pos h]
end PL

namespace Lk41
open PySem PySem.Spec PyProof.Rows L2 PL
abbrev N_by_sign : List Str := ["sign", "one", "other"]
def r_by_sign : TSD := (tdG (tdSeq (tdIfS (tdB (tdOp (rdP (eqR false)) (tdVar 0) (tdC (.str "<")))) (tdRet (tdCB (rdC intD1) (tdCons (tdOp (rdP ltD) (tdVar 1) (tdVar 2)) tdNil))) tdNext) (tdSeq (tdIfS (tdB (tdOp (rdP (eqR false)) (tdVar 0) (tdC (.str "*")))) (tdRet (tdOp (rdP mulD) (tdVar 1) (tdVar 2))) tdNext) (tdRet (tdIf (tdB (tdOp (rdP (eqR false)) (tdVar 0) (tdC (.str "+")))) (tdOp (rdP addD) (tdVar 1) (tdVar 2)) (tdOp (rdP subD) (tdVar 1) (tdVar 2)))))))
def d_by_sign : SpD := mkSp 3 N_by_sign r_by_sign
def fr_by_sign : FS := (fSeq (fIfS (fB (fOp (eqF false) (fVarB 0) (fC (.str "<")))) (fRet (fCB intF1 (fCons (fOp ltF (fVarB 1) (fVarB 2)) fNil))) fNext) (fSeq (fIfS (fB (fOp (eqF false) (fVarB 0) (fC (.str "*")))) (fRet (fOp mulF (fVar 1) (fVar 2))) fNext) (fRet (fIf (fB (fOp (eqF false) (fVarB 0) (fC (.str "+")))) (fOp addF (fVarB 1) (fVarB 2)) (fOp subF (fVarB 1) (fVarB 2))))))
def fn_by_sign : List D → Option D := fnOf 3 N_by_sign fr_by_sign
theorem pu_by_sign : Pure d_by_sign fn_by_sign := pure_mk (pu_seq (pu_ifS (pu_b (pu_op resp_eq pu_varB (PuE.b pu_c))) (pu_ret (pu_cb resp_int1 (pu_consB (PuE.b (pu_op resp_ord pu_varB pu_varB)) pu_nilB))) pu_next) (pu_seq (pu_ifS (pu_b (pu_op resp_eq pu_varB (PuE.b pu_c))) (pu_ret (pu_opE resp_mul pu_var pu_var)) pu_next) (pu_ret (pu_if (pu_b (pu_op resp_eq pu_varB (PuE.b pu_c))) (pu_op resp_add pu_varB pu_varB) (pu_op resp_sub pu_varB pu_varB)))))
abbrev N_constant : List Str := ["number"]
def r_constant : TSD := (tdG (tdRet (tdTup (tdCons (tdC .non) (tdCons (tdVar 0) tdNil)))))
def d_constant : SpD := mkSp 1 N_constant r_constant
def fr_constant : FS := (fRet (fTup (fCons (fC .non) (fCons (fVar 0) fNil))))
def fn_constant : List D → Option D := fnOf 1 N_constant fr_constant
theorem pu_constant : Pure d_constant fn_constant := pure_mk (pu_ret (pu_tup (pu_cons pu_c (pu_cons pu_var pu_nil))))
abbrev N_is_constant : List Str := ["term"]
def r_is_constant : TSD := (tdG (tdRet (tdOp (rdP (isNR false)) (tdOp (rdP ixD) (tdVar 0) (tdC (.int 0))) (tdC .non))))
def d_is_constant : SpD := mkSp 1 N_is_constant r_is_constant
def fr_is_constant : FS := (fRet (fOp (isNF false) (fOp ixF (fVarB 0) (fC (.int 0))) (fC .non)))
def fn_is_constant : List D → Option D := fnOf 1 N_is_constant fr_is_constant
theorem pu_is_constant : Pure d_is_constant fn_is_constant := pure_mk (pu_ret (pu_op resp_isN (PuE.b (pu_op resp_ix pu_varB (PuE.b pu_c))) (PuE.b pu_c)))
abbrev N_more_by : List Str := ["term", "number"]
def r_more_by : TSD := (tdG (tdRet (tdTup (tdCons (tdOp (rdP ixD) (tdVar 0) (tdC (.int 0))) (tdCons (tdOp (rdP addD) (tdOp (rdP ixD) (tdVar 0) (tdC (.int 1))) (tdVar 1)) tdNil)))))
def d_more_by : SpD := mkSp 2 N_more_by r_more_by
def fr_more_by : FS := (fRet (fTup (fCons (fOp ixF (fVarB 0) (fC (.int 0))) (fCons (fOp addF (fOp ixF (fVarB 0) (fC (.int 1))) (fVarB 1)) fNil))))
def fn_more_by : List D → Option D := fnOf 2 N_more_by fr_more_by
theorem pu_more_by : Pure d_more_by fn_more_by := pure_mk (pu_ret (pu_tup (pu_cons (pu_op resp_ix pu_varB (PuE.b pu_c)) (pu_cons (pu_op resp_add (PuE.b (pu_op resp_ix pu_varB (PuE.b pu_c))) pu_varB) pu_nil))))
abbrev N__law_feed : List Str := ["_law_script"]
def r__law_feed : TSD := (tdRet (tdLstR (tdCons (tdCB (rdC listD) (tdCons (tdSl (tdVar 0) tdNoPart (tdPart (tdC (.int 63)))) tdNil)) (tdCons (tdC (.int 0)) (tdCons (tdC (.int 0)) tdNil)))))
def d__law_feed : SpD := mkSp 1 N__law_feed r__law_feed
abbrev N__law_draw : List Str := ["_law_feed_here", "_law_many", "_law_figure", "_law_at", "_law_one", "_law_mixed"]
def r__law_draw : TSD := (tdSeq (tdIfS (tdB (tdOp (rdP gtD) (tdOp (rdP ixD) (tdVar 0) (tdC (.int 2))) (tdC (.int 0)))) (tdSeq (tdAsg (tdOp (rdP modD) (tdOp (rdP ixD) (tdVar 0) (tdC (.int 2))) (tdVar 1)) (.nm 2)) (tdSeq (tdSetI (tdOp (rdP fdivD) (tdOp (rdP ixD) (tdVar 0) (tdC (.int 2))) (tdVar 1)) (tdVar 0) (tdC (.int 2))) (tdRet (tdVar 2)))) tdNext) (tdSeq (tdAsg (tdOp (rdP ixD) (tdVar 0) (tdC (.int 1))) (.nm 3)) (tdSeq (tdSetI (tdOp (rdP addD) (tdVar 3) (tdC (.int 1))) (tdVar 0) (tdC (.int 1))) (tdSeq (tdAsg (tdIf (tdB (tdOp (rdP (eqR true)) (tdOp (rdP ixD) (tdVar 0) (tdC (.int 0))) (tdLst tdNil))) (tdOp (rdP ixD) (tdOp (rdP ixD) (tdVar 0) (tdC (.int 0))) (tdOp (rdP modD) (tdVar 3) (tdCB (rdC lenD) (tdCons (tdOp (rdP ixD) (tdVar 0) (tdC (.int 0))) tdNil)))) (tdC (.int 4))) (.nm 4)) (tdSeq (tdIfS (tdAnd (tdB (tdOp (rdP geD) (tdVar 4) (tdOp (rdP powD) (tdC (.int 10)) (tdC (.int 18))))) (tdB (tdOp (rdP ltD) (tdVar 3) (tdCB (rdC lenD) (tdCons (tdOp (rdP ixD) (tdVar 0) (tdC (.int 0))) tdNil))))) (tdSeq (tdSetI (tdOp (rdP fdivD) (tdVar 4) (tdVar 1)) (tdVar 0) (tdC (.int 2))) (tdRet (tdOp (rdP modD) (tdVar 4) (tdVar 1)))) tdNext) (tdSeq (tdAsg (tdOp (rdP modD) (tdOp (rdP mulD) (tdOp (rdP addD) (tdOp (rdP addD) (tdOp (rdP addD) (tdOp (rdP modD) (tdVar 4) (tdC (.int 1001401))) (tdOp (rdP mulD) (tdOp (rdP mulD) (tdC (.int 253)) (tdVar 3)) (tdVar 3))) (tdOp (rdP mulD) (tdC (.int 145)) (tdVar 3))) (tdC (.int 135))) (tdC (.int 69621))) (tdC (.int 2147483647))) (.nm 5)) (tdSeq (tdAsg (tdOp (rdP modD) (tdOp (rdP addD) (tdOp (rdP addD) (tdOp (rdP mulD) (tdVar 5) (tdVar 5)) (tdOp (rdP mulD) (tdC (.int 6867)) (tdVar 3))) (tdC (.int 139))) (tdC (.int 2147483629))) (.nm 5)) (tdSeq (tdAsg (tdOp (rdP modD) (tdOp (rdP addD) (tdOp (rdP addD) (tdOp (rdP mulD) (tdVar 5) (tdVar 5)) (tdOp (rdP mulD) (tdC (.int 390043)) (tdVar 5))) (tdVar 3)) (tdC (.int 2147483587))) (.nm 5)) (tdRet (tdOp (rdP modD) (tdOp (rdP fdivD) (tdVar 5) (tdC (.int 64))) (tdVar 1)))))))))))
def d__law_draw : SpD := mkSp 2 N__law_draw r__law_draw
abbrev N__law_sum : List Str := ["_law_word", "_law_one", "_law_other"]
def r__law_sum : TSD := (tdG (tdSeq (tdIfS (tdB (tdOp (rdP (eqR false)) (tdVar 0) (tdC (.str "<")))) (tdRet (tdCB (rdC intD1) (tdCons (tdOp (rdP ltD) (tdVar 1) (tdVar 2)) tdNil))) tdNext) (tdSeq (tdIfS (tdB (tdOp (rdP (eqR false)) (tdVar 0) (tdC (.str "/")))) (tdRet (tdIf (tdB (tdOp (rdP (eqR false)) (tdVar 2) (tdC (.int 0)))) (tdC (.int 0)) (tdOp (rdP fdivD) (tdVar 1) (tdVar 2)))) tdNext) (tdRet (tdIf (tdB (tdOp (rdP (eqR false)) (tdVar 0) (tdC (.str "*")))) (tdOp (rdP mulD) (tdVar 1) (tdVar 2)) (tdIf (tdB (tdOp (rdP (eqR false)) (tdVar 0) (tdC (.str "+")))) (tdOp (rdP addD) (tdVar 1) (tdVar 2)) (tdOp (rdP subD) (tdVar 1) (tdVar 2))))))))
def d__law_sum : SpD := mkSp 3 N__law_sum r__law_sum
def fr__law_sum : FS := (fSeq (fIfS (fB (fOp (eqF false) (fVarB 0) (fC (.str "<")))) (fRet (fCB intF1 (fCons (fOp ltF (fVarB 1) (fVarB 2)) fNil))) fNext) (fSeq (fIfS (fB (fOp (eqF false) (fVarB 0) (fC (.str "/")))) (fRet (fIf (fB (fOp (eqF false) (fVarB 2) (fC (.int 0)))) (fC (.int 0)) (fOp fdivF (fVarB 1) (fVarB 2)))) fNext) (fRet (fIf (fB (fOp (eqF false) (fVarB 0) (fC (.str "*")))) (fOp mulF (fVar 1) (fVar 2)) (fIf (fB (fOp (eqF false) (fVarB 0) (fC (.str "+")))) (fOp addF (fVarB 1) (fVarB 2)) (fOp subF (fVarB 1) (fVarB 2)))))))
def fn__law_sum : List D → Option D := fnOf 3 N__law_sum fr__law_sum
theorem pu__law_sum : Pure d__law_sum fn__law_sum := pure_mk (pu_seq (pu_ifS (pu_b (pu_op resp_eq pu_varB (PuE.b pu_c))) (pu_ret (pu_cb resp_int1 (pu_consB (PuE.b (pu_op resp_ord pu_varB pu_varB)) pu_nilB))) pu_next) (pu_seq (pu_ifS (pu_b (pu_op resp_eq pu_varB (PuE.b pu_c))) (pu_ret (pu_if (pu_b (pu_op resp_eq pu_varB (PuE.b pu_c))) pu_c (pu_op resp_fdiv pu_varB pu_varB))) pu_next) (pu_ret (pu_if (pu_b (pu_op resp_eq pu_varB (PuE.b pu_c))) (pu_opE resp_mul pu_var pu_var) (pu_if (pu_b (pu_op resp_eq pu_varB (PuE.b pu_c))) (pu_op resp_add pu_varB pu_varB) (pu_op resp_sub pu_varB pu_varB))))))
abbrev N__law_cell : List Str := ["_law_memory", "_law_cell_here", "_law_start", "_law_size", "_law_root", "_law_rows", "_law_at", "_law_n", "_law_term"]
abbrev d__law_cell : SpD := spDead
abbrev N_of_constants : List Str := ["word", "one", "other"]
def r_of_constants : TSD := (tdG (tdSeq (tdIfS (tdB (tdOp (rdP (eqR true)) (tdVar 0) (tdC (.str "/")))) (tdRet (tdCall d_constant [] (tdCons (tdCall d_by_sign [] (tdCons (tdVar 0) (tdCons (tdOp (rdP ixD) (tdVar 1) (tdC (.int 1))) (tdCons (tdOp (rdP ixD) (tdVar 2) (tdC (.int 1))) tdNil)))) tdNil))) tdNext) (tdRet (tdIf (tdB (tdOp (rdP (eqR false)) (tdOp (rdP ixD) (tdVar 2) (tdC (.int 1))) (tdC (.int 0)))) (tdC .non) (tdCall d_constant [] (tdCons (tdOp (rdP fdivD) (tdOp (rdP ixD) (tdVar 1) (tdC (.int 1))) (tdOp (rdP ixD) (tdVar 2) (tdC (.int 1)))) tdNil))))))
def d_of_constants : SpD := mkSp 3 N_of_constants r_of_constants
def fr_of_constants : FS := (fSeq (fIfS (fB (fOp (eqF true) (fVarB 0) (fC (.str "/")))) (fRet (fCall fn_constant (fCons (fCall fn_by_sign (fCons (fVar 0) (fCons (fOp ixF (fVarB 1) (fC (.int 1))) (fCons (fOp ixF (fVarB 2) (fC (.int 1))) fNil)))) fNil))) fNext) (fRet (fIf (fB (fOp (eqF false) (fOp ixF (fVarB 2) (fC (.int 1))) (fC (.int 0)))) (fC .non) (fCall fn_constant (fCons (fOp fdivF (fOp ixF (fVarB 1) (fC (.int 1))) (fOp ixF (fVarB 2) (fC (.int 1)))) fNil)))))
def fn_of_constants : List D → Option D := fnOf 3 N_of_constants fr_of_constants
theorem pu_of_constants : Pure d_of_constants fn_of_constants := pure_mk (pu_seq (pu_ifS (pu_b (pu_op resp_eq pu_varB (PuE.b pu_c))) (pu_ret (pu_call pu_constant (pu_cons (pu_call pu_by_sign (pu_cons pu_var (pu_cons (pu_op resp_ix pu_varB (PuE.b pu_c)) (pu_cons (pu_op resp_ix pu_varB (PuE.b pu_c)) pu_nil)))) pu_nil))) pu_next) (pu_ret (pu_if (pu_b (pu_op resp_eq (PuE.b (pu_op resp_ix pu_varB (PuE.b pu_c))) (PuE.b pu_c))) pu_c (pu_call pu_constant (pu_cons (pu_op resp_fdiv (PuE.b (pu_op resp_ix pu_varB (PuE.b pu_c))) (PuE.b (pu_op resp_ix pu_varB (PuE.b pu_c)))) pu_nil)))))
abbrev N__law_made : List Str := ["_law_word", "_law_one", "_law_other"]
def r__law_made : TSD := (tdG (tdSeq (tdIfS (tdAnd (tdB (tdOp (rdP (isNR false)) (tdOp (rdP ixD) (tdVar 1) (tdC (.int 0))) (tdC .non))) (tdAnd (tdB (tdOp (rdP (isNR false)) (tdOp (rdP ixD) (tdVar 2) (tdC (.int 0))) (tdC .non))) (tdNot (tdAnd (tdB (tdOp (rdP (eqR false)) (tdVar 0) (tdC (.str "/")))) (tdB (tdOp (rdP (eqR false)) (tdOp (rdP ixD) (tdVar 2) (tdC (.int 1))) (tdC (.int 0)))))))) (tdRet (tdTup (tdCons (tdC .non) (tdCons (tdCall d__law_sum [] (tdCons (tdVar 0) (tdCons (tdOp (rdP ixD) (tdVar 1) (tdC (.int 1))) (tdCons (tdOp (rdP ixD) (tdVar 2) (tdC (.int 1))) tdNil)))) tdNil)))) tdNext) (tdSeq (tdIfS (tdAnd (tdB (tdOp (rdP (eqR false)) (tdVar 0) (tdC (.str "+")))) (tdB (tdOp (rdP (isNR false)) (tdOp (rdP ixD) (tdVar 1) (tdC (.int 0))) (tdC .non)))) (tdRet (tdTup (tdCons (tdOp (rdP ixD) (tdVar 2) (tdC (.int 0))) (tdCons (tdOp (rdP addD) (tdOp (rdP ixD) (tdVar 2) (tdC (.int 1))) (tdOp (rdP ixD) (tdVar 1) (tdC (.int 1)))) tdNil)))) tdNext) (tdSeq (tdIfS (tdAnd (tdB (tdOp (rdP (inR false)) (tdVar 0) (tdTup (tdCons (tdC (.str "+")) (tdCons (tdC (.str "-")) tdNil))))) (tdB (tdOp (rdP (isNR false)) (tdOp (rdP ixD) (tdVar 2) (tdC (.int 0))) (tdC .non)))) (tdRet (tdTup (tdCons (tdOp (rdP ixD) (tdVar 1) (tdC (.int 0))) (tdCons (tdCall d__law_sum [] (tdCons (tdVar 0) (tdCons (tdOp (rdP ixD) (tdVar 1) (tdC (.int 1))) (tdCons (tdOp (rdP ixD) (tdVar 2) (tdC (.int 1))) tdNil)))) tdNil)))) tdNext) (tdRet (tdTup (tdCons (tdTup (tdCons (tdVar 0) (tdCons (tdVar 1) (tdCons (tdVar 2) tdNil)))) (tdCons (tdC (.int 0)) tdNil))))))))
def d__law_made : SpD := mkSp 3 N__law_made r__law_made
def fr__law_made : FS := (fSeq (fIfS (fAnd (fB (fOp (isNF false) (fOp ixF (fVarB 1) (fC (.int 0))) (fC .non))) (fAnd (fB (fOp (isNF false) (fOp ixF (fVarB 2) (fC (.int 0))) (fC .non))) (fNot (fAnd (fB (fOp (eqF false) (fVarB 0) (fC (.str "/")))) (fB (fOp (eqF false) (fOp ixF (fVarB 2) (fC (.int 1))) (fC (.int 0)))))))) (fRet (fTup (fCons (fC .non) (fCons (fCall fn__law_sum (fCons (fVar 0) (fCons (fOp ixF (fVarB 1) (fC (.int 1))) (fCons (fOp ixF (fVarB 2) (fC (.int 1))) fNil)))) fNil)))) fNext) (fSeq (fIfS (fAnd (fB (fOp (eqF false) (fVarB 0) (fC (.str "+")))) (fB (fOp (isNF false) (fOp ixF (fVarB 1) (fC (.int 0))) (fC .non)))) (fRet (fTup (fCons (fOp ixF (fVarB 2) (fC (.int 0))) (fCons (fOp addF (fOp ixF (fVarB 2) (fC (.int 1))) (fOp ixF (fVarB 1) (fC (.int 1)))) fNil)))) fNext) (fSeq (fIfS (fAnd (fB (fOp (inF false) (fVar 0) (fTup (fCons (fC (.str "+")) (fCons (fC (.str "-")) fNil))))) (fB (fOp (isNF false) (fOp ixF (fVarB 2) (fC (.int 0))) (fC .non)))) (fRet (fTup (fCons (fOp ixF (fVarB 1) (fC (.int 0))) (fCons (fCall fn__law_sum (fCons (fVar 0) (fCons (fOp ixF (fVarB 1) (fC (.int 1))) (fCons (fOp ixF (fVarB 2) (fC (.int 1))) fNil)))) fNil)))) fNext) (fRet (fTup (fCons (fTup (fCons (fVar 0) (fCons (fVar 1) (fCons (fVar 2) fNil)))) (fCons (fC (.int 0)) fNil)))))))
def fn__law_made : List D → Option D := fnOf 3 N__law_made fr__law_made
theorem pu__law_made : Pure d__law_made fn__law_made := pure_mk (pu_seq (pu_ifS (pu_and (pu_b (pu_op resp_isN (PuE.b (pu_op resp_ix pu_varB (PuE.b pu_c))) (PuE.b pu_c))) (pu_and (pu_b (pu_op resp_isN (PuE.b (pu_op resp_ix pu_varB (PuE.b pu_c))) (PuE.b pu_c))) (pu_not (pu_and (pu_b (pu_op resp_eq pu_varB (PuE.b pu_c))) (pu_b (pu_op resp_eq (PuE.b (pu_op resp_ix pu_varB (PuE.b pu_c))) (PuE.b pu_c))))))) (pu_ret (pu_tup (pu_cons pu_c (pu_cons (pu_call pu__law_sum (pu_cons pu_var (pu_cons (pu_op resp_ix pu_varB (PuE.b pu_c)) (pu_cons (pu_op resp_ix pu_varB (PuE.b pu_c)) pu_nil)))) pu_nil)))) pu_next) (pu_seq (pu_ifS (pu_and (pu_b (pu_op resp_eq pu_varB (PuE.b pu_c))) (pu_b (pu_op resp_isN (PuE.b (pu_op resp_ix pu_varB (PuE.b pu_c))) (PuE.b pu_c)))) (pu_ret (pu_tup (pu_cons (pu_op resp_ix pu_varB (PuE.b pu_c)) (pu_cons (pu_op resp_add (PuE.b (pu_op resp_ix pu_varB (PuE.b pu_c))) (PuE.b (pu_op resp_ix pu_varB (PuE.b pu_c)))) pu_nil)))) pu_next) (pu_seq (pu_ifS (pu_and (pu_b (pu_in pu_var (PuE.b (pu_tup (pu_cons pu_c (pu_cons pu_c pu_nil)))))) (pu_b (pu_op resp_isN (PuE.b (pu_op resp_ix pu_varB (PuE.b pu_c))) (PuE.b pu_c)))) (pu_ret (pu_tup (pu_cons (pu_op resp_ix pu_varB (PuE.b pu_c)) (pu_cons (pu_call pu__law_sum (pu_cons pu_var (pu_cons (pu_op resp_ix pu_varB (PuE.b pu_c)) (pu_cons (pu_op resp_ix pu_varB (PuE.b pu_c)) pu_nil)))) pu_nil)))) pu_next) (pu_ret (pu_tup (pu_cons (pu_tup (pu_cons pu_var (pu_cons pu_var (pu_cons pu_var pu_nil)))) (pu_cons pu_c pu_nil)))))))
abbrev N_made_of : List Str := ["word", "one", "other", "found"]
def r_made_of : TSD := (tdG (tdSeq (tdAsg (tdIf (tdAnd (tdB (tdCall d_is_constant [] (tdCons (tdVar 1) tdNil))) (tdB (tdCall d_is_constant [] (tdCons (tdVar 2) tdNil)))) (tdCall d_of_constants [] (tdCons (tdVar 0) (tdCons (tdVar 1) (tdCons (tdVar 2) tdNil)))) (tdC .non)) (.nm 3)) (tdSeq (tdIfS (tdB (tdOp (rdP (isNR true)) (tdVar 3) (tdC .non))) (tdRet (tdVar 3)) tdNext) (tdSeq (tdIfS (tdAnd (tdB (tdOp (rdP (eqR false)) (tdVar 0) (tdC (.str "+")))) (tdB (tdCall d_is_constant [] (tdCons (tdVar 1) tdNil)))) (tdRet (tdCall d_more_by [] (tdCons (tdVar 2) (tdCons (tdOp (rdP ixD) (tdVar 1) (tdC (.int 1))) tdNil)))) tdNext) (tdSeq (tdIfS (tdAnd (tdB (tdOp (rdP (inR false)) (tdVar 0) (tdTup (tdCons (tdC (.str "+")) (tdCons (tdC (.str "-")) tdNil))))) (tdB (tdCall d_is_constant [] (tdCons (tdVar 2) tdNil)))) (tdRet (tdCall d_more_by [] (tdCons (tdVar 1) (tdCons (tdIf (tdB (tdOp (rdP (eqR false)) (tdVar 0) (tdC (.str "+")))) (tdOp (rdP ixD) (tdVar 2) (tdC (.int 1))) (tdOp (rdP subD) (tdC (.int 0)) (tdOp (rdP ixD) (tdVar 2) (tdC (.int 1))))) tdNil)))) tdNext) (tdRet (tdTup (tdCons (tdTup (tdCons (tdVar 0) (tdCons (tdVar 1) (tdCons (tdVar 2) tdNil)))) (tdCons (tdC (.int 0)) tdNil)))))))))
def d_made_of : SpD := mkSp 3 N_made_of r_made_of
def fr_made_of : FS := (fSeq (fAsg (fIf (fAnd (fB (fCall fn_is_constant (fCons (fVar 1) fNil))) (fB (fCall fn_is_constant (fCons (fVar 2) fNil)))) (fCall fn_of_constants (fCons (fVar 0) (fCons (fVar 1) (fCons (fVar 2) fNil)))) (fC .non)) (.nm 3)) (fSeq (fIfS (fB (fOp (isNF true) (fVarB 3) (fC .non))) (fRet (fVar 3)) fNext) (fSeq (fIfS (fAnd (fB (fOp (eqF false) (fVarB 0) (fC (.str "+")))) (fB (fCall fn_is_constant (fCons (fVar 1) fNil)))) (fRet (fCall fn_more_by (fCons (fVar 2) (fCons (fOp ixF (fVarB 1) (fC (.int 1))) fNil)))) fNext) (fSeq (fIfS (fAnd (fB (fOp (inF false) (fVar 0) (fTup (fCons (fC (.str "+")) (fCons (fC (.str "-")) fNil))))) (fB (fCall fn_is_constant (fCons (fVar 2) fNil)))) (fRet (fCall fn_more_by (fCons (fVar 1) (fCons (fIf (fB (fOp (eqF false) (fVarB 0) (fC (.str "+")))) (fOp ixF (fVarB 2) (fC (.int 1))) (fOp subF (fC (.int 0)) (fOp ixF (fVarB 2) (fC (.int 1))))) fNil)))) fNext) (fRet (fTup (fCons (fTup (fCons (fVar 0) (fCons (fVar 1) (fCons (fVar 2) fNil)))) (fCons (fC (.int 0)) fNil))))))))
def fn_made_of : List D → Option D := fnOf 3 N_made_of fr_made_of
theorem pu_made_of : Pure d_made_of fn_made_of := pure_mk (pu_seq (pu_asg (pu_if (pu_and (pu_b (pu_call pu_is_constant (pu_cons pu_var pu_nil))) (pu_b (pu_call pu_is_constant (pu_cons pu_var pu_nil)))) (pu_call pu_of_constants (pu_cons pu_var (pu_cons pu_var (pu_cons pu_var pu_nil)))) pu_c)) (pu_seq (pu_ifS (pu_b (pu_op resp_isN pu_varB (PuE.b pu_c))) (pu_ret pu_var) pu_next) (pu_seq (pu_ifS (pu_and (pu_b (pu_op resp_eq pu_varB (PuE.b pu_c))) (pu_b (pu_call pu_is_constant (pu_cons pu_var pu_nil)))) (pu_ret (pu_call pu_more_by (pu_cons pu_var (pu_cons (pu_op resp_ix pu_varB (PuE.b pu_c)) pu_nil)))) pu_next) (pu_seq (pu_ifS (pu_and (pu_b (pu_in pu_var (PuE.b (pu_tup (pu_cons pu_c (pu_cons pu_c pu_nil)))))) (pu_b (pu_call pu_is_constant (pu_cons pu_var pu_nil)))) (pu_ret (pu_call pu_more_by (pu_cons pu_var (pu_cons (pu_if (pu_b (pu_op resp_eq pu_varB (PuE.b pu_c))) (pu_op resp_ix pu_varB (PuE.b pu_c)) (pu_op resp_sub (PuE.b pu_c) (PuE.b (pu_op resp_ix pu_varB (PuE.b pu_c))))) pu_nil)))) pu_next) (pu_ret (pu_tup (pu_cons (pu_tup (pu_cons pu_var (pu_cons pu_var (pu_cons pu_var pu_nil)))) (pu_cons pu_c pu_nil))))))))
abbrev N__law_drawn : List Str := ["_law_feed_here", "_law_deep", "_law_numbers", "_law_word"]
def r__law_drawn (P_ : Nat → SpD) : TSD := (tdG (tdSeq (tdIfS (tdOr (tdB (tdOp (rdP (eqR false)) (tdVar 1) (tdC (.int 0)))) (tdB (tdOp (rdP (eqR false)) (tdCall d__law_draw [] (tdCons (tdVar 0) (tdCons (tdC (.int 3)) tdNil))) (tdC (.int 0))))) (tdSeq (tdAsg (tdLst (tdCons (tdC (.int 0)) (tdCons (tdC (.int 1)) (tdCons (tdUn rdNeg (tdC (.int 1))) (tdCons (tdC (.int 2)) (tdCons (tdC (.int 10)) (tdCons (tdOp (rdP powD) (tdC (.int 10)) (tdC (.int 6))) (tdCons (tdUn rdNeg (tdC (.int 7))) tdNil)))))))) (.nm 2)) (tdSeq (tdIfS (tdB (tdOp (rdP (eqR false)) (tdCall d__law_draw [] (tdCons (tdVar 0) (tdCons (tdC (.int 2)) tdNil))) (tdC (.int 0)))) (tdRet (tdTup (tdCons (tdC .non) (tdCons (tdOp (rdP ixD) (tdVar 2) (tdCall d__law_draw [] (tdCons (tdVar 0) (tdCons (tdC (.int 7)) tdNil)))) tdNil)))) tdNext) (tdRet (tdTup (tdCons (tdTup (tdCons (tdOp (rdP ixD) (tdLst (tdCons (tdC (.str "at")) (tdCons (tdC (.str "own")) tdNil))) (tdCall d__law_draw [] (tdCons (tdVar 0) (tdCons (tdC (.int 2)) tdNil)))) (tdCons (tdOp (rdP ixD) (tdLst (tdCons (tdC (.str "a")) (tdCons (tdC (.str "b")) tdNil))) (tdCall d__law_draw [] (tdCons (tdVar 0) (tdCons (tdC (.int 2)) tdNil)))) tdNil))) (tdCons (tdOp (rdP ixD) (tdLst (tdCons (tdC (.int 0)) (tdCons (tdC (.int 0)) (tdCons (tdC (.int 1)) (tdCons (tdUn rdNeg (tdC (.int 5))) tdNil))))) (tdCall d__law_draw [] (tdCons (tdVar 0) (tdCons (tdC (.int 4)) tdNil)))) tdNil)))))) tdNext) (tdSeq (tdAsg (tdOp (rdP ixD) (tdLst (tdCons (tdC (.str "+")) (tdCons (tdC (.str "-")) (tdCons (tdC (.str "*")) (tdCons (tdC (.str "<")) (tdCons (tdC (.str "/")) tdNil)))))) (tdCall d__law_draw [] (tdCons (tdVar 0) (tdCons (tdC (.int 5)) tdNil)))) (.nm 3)) (tdRet (tdCall d__law_made [] (tdCons (tdVar 3) (tdCons (tdCall (P_ 0) [] (tdCons (tdVar 0) (tdCons (tdOp (rdP subD) (tdVar 1) (tdC (.int 1))) tdNil))) (tdCons (tdCall (P_ 0) [] (tdCons (tdVar 0) (tdCons (tdOp (rdP subD) (tdVar 1) (tdC (.int 1))) tdNil))) tdNil))))))))
def D__law_drawn : Nat → Nat → SpD
  | 0, _ => spDead
  | n + 1, 0 => mkSp 2 N__law_drawn (r__law_drawn (D__law_drawn n))
  | _ + 1, _ => spDead
abbrev d__law_drawn : SpD := D__law_drawn 6 0
def gr__law_drawn (y : Addr) (F_ : Nat → List D → Gen D) : GS := (gSeq (gIfS (gOr (gT (fB (fOp (eqF false) (fVarB 1) (fC (.int 0))))) (gB (gOp (eqF false) (gCall (drawG y) (gA (fCons (fVar 0) (fCons (fC (.int 3)) fNil)))) (gE (fC (.int 0)))))) (gSeq (gS (fAsg (fLst (fCons (fC (.int 0)) (fCons (fC (.int 1)) (fCons (fUn negF (fC (.int 1))) (fCons (fC (.int 2)) (fCons (fC (.int 10)) (fCons (fOp powF (fC (.int 10)) (fC (.int 6))) (fCons (fUn negF (fC (.int 7))) fNil)))))))) (.nm 2))) (gSeq (gIfS (gB (gOp (eqF false) (gCall (drawG y) (gA (fCons (fVar 0) (fCons (fC (.int 2)) fNil)))) (gE (fC (.int 0))))) (gRet (gTup (gCons (gE (fC .non)) (gCons (gOpV ixF 2 (gCall (drawG y) (gA (fCons (fVar 0) (fCons (fC (.int 7)) fNil))))) (gA fNil))))) (gS fNext)) (gRet (gTup (gCons (gTup (gCons (gOp ixF (gE (fLst (fCons (fC (.str "at")) (fCons (fC (.str "own")) fNil)))) (gCall (drawG y) (gA (fCons (fVar 0) (fCons (fC (.int 2)) fNil))))) (gCons (gOp ixF (gE (fLst (fCons (fC (.str "a")) (fCons (fC (.str "b")) fNil)))) (gCall (drawG y) (gA (fCons (fVar 0) (fCons (fC (.int 2)) fNil))))) (gA fNil)))) (gCons (gOp ixF (gE (fLst (fCons (fC (.int 0)) (fCons (fC (.int 0)) (fCons (fC (.int 1)) (fCons (fUn negF (fC (.int 5))) fNil)))))) (gCall (drawG y) (gA (fCons (fVar 0) (fCons (fC (.int 4)) fNil))))) (gA fNil))))))) (gS fNext)) (gSeq (gAsg (gOp ixF (gE (fLst (fCons (fC (.str "+")) (fCons (fC (.str "-")) (fCons (fC (.str "*")) (fCons (fC (.str "<")) (fCons (fC (.str "/")) fNil))))))) (gCall (drawG y) (gA (fCons (fVar 0) (fCons (fC (.int 5)) fNil))))) (.nm 3)) (gRet (gCall (fun ds => .of (fn__law_made ds)) (gCons (gE (fVar 3)) (gCons (gCall (F_ 0) (gA (fCons (fVar 0) (fCons (fOp subF (fVarB 1) (fC (.int 1))) fNil)))) (gCons (gCall (F_ 0) (gA (fCons (fVar 0) (fCons (fOp subF (fVarB 1) (fC (.int 1))) fNil)))) (gA fNil))))))))
def GF__law_drawn (y : Addr) : Nat → Nat → List D → Gen D
  | 0, _ => fun _ => .fail
  | n + 1, 0 => gnOf 2 N__law_drawn (gr__law_drawn y (GF__law_drawn y n))
  | _ + 1, _ => fun _ => .fail
theorem guG__law_drawn {F : Feed} (hd : PureG F d__law_draw (drawG F.y)) : ∀ n k, PureG F (D__law_drawn n k) (GF__law_drawn F.y n k)
  | 0, _ => pureG_dead
  | n + 1, 0 => pureG_mk (gu_seq (gu_ifS (gu_or (gu_t (pu_b (pu_op resp_eq pu_varB (PuE.b pu_c)))) (gu_b (gu_op (RespB.e resp_eq) (gu_call hd (gu_a (pu_cons pu_var (pu_cons pu_c pu_nil)))) (gu_e pu_c)))) (gu_seq (gu_s (pu_asg (pu_lst (pu_cons pu_c (pu_cons pu_c (pu_cons (pu_neg pu_c) (pu_cons pu_c (pu_cons pu_c (pu_cons (pu_op resp_pow (PuE.b pu_c) (PuE.b pu_c)) (pu_cons (pu_neg pu_c) pu_nil)))))))))) (gu_seq (gu_ifS (gu_b (gu_op (RespB.e resp_eq) (gu_call hd (gu_a (pu_cons pu_var (pu_cons pu_c pu_nil)))) (gu_e pu_c))) (gu_ret (gu_tup (gu_cons (gu_e pu_c) (gu_cons (gu_opV resp_ix (gu_call hd (gu_a (pu_cons pu_var (pu_cons pu_c pu_nil))))) gu_nil)))) (gu_s pu_next)) (gu_ret (gu_tup (gu_cons (gu_tup (gu_cons (gu_op (RespB.e resp_ix) (gu_e (pu_lst (pu_cons pu_c (pu_cons pu_c pu_nil)))) (gu_call hd (gu_a (pu_cons pu_var (pu_cons pu_c pu_nil))))) (gu_cons (gu_op (RespB.e resp_ix) (gu_e (pu_lst (pu_cons pu_c (pu_cons pu_c pu_nil)))) (gu_call hd (gu_a (pu_cons pu_var (pu_cons pu_c pu_nil))))) gu_nil))) (gu_cons (gu_op (RespB.e resp_ix) (gu_e (pu_lst (pu_cons pu_c (pu_cons pu_c (pu_cons pu_c (pu_cons (pu_neg pu_c) pu_nil)))))) (gu_call hd (gu_a (pu_cons pu_var (pu_cons pu_c pu_nil))))) gu_nil)))))) (gu_s pu_next)) (gu_seq (gu_asg (gu_op (RespB.e resp_ix) (gu_e (pu_lst (pu_cons pu_c (pu_cons pu_c (pu_cons pu_c (pu_cons pu_c (pu_cons pu_c pu_nil))))))) (gu_call hd (gu_a (pu_cons pu_var (pu_cons pu_c pu_nil)))))) (gu_ret (gu_call (Pure.g pu__law_made) (gu_cons (gu_e pu_var) (gu_cons (gu_call (guG__law_drawn hd n 0) (gu_a (pu_cons pu_var (pu_cons (pu_op resp_sub pu_varB (PuE.b pu_c)) pu_nil)))) (gu_cons (gu_call (guG__law_drawn hd n 0) (gu_a (pu_cons pu_var (pu_cons (pu_op resp_sub pu_varB (PuE.b pu_c)) pu_nil)))) gu_nil)))))))
  | _ + 1, _ + 1 => pureG_dead
abbrev gn__law_drawn (y : Addr) : List D → Gen D := GF__law_drawn y 6 0
theorem gu__law_drawn {F : Feed} (hd : PureG F d__law_draw (drawG F.y)) : PureG F d__law_drawn (gn__law_drawn F.y) := guG__law_drawn hd 6 0
abbrev N__law_worth : List Str := ["_law_term", "_law_start", "_law_size", "_law_root", "_law_n"]
def r__law_worth (P_ : Nat → SpD) : TSD := (tdG (tdSeq (tdAsg (tdVar 0) (.tp (.cons (.nm 3) (.cons (.nm 4) .nil)))) (tdSeq (tdIfS (tdB (tdOp (rdP (isNR false)) (tdVar 3) (tdC .non))) (tdRet (tdVar 4)) tdNext) (tdSeq (tdIfS (tdB (tdOp (rdP (inR false)) (tdOp (rdP ixD) (tdVar 3) (tdC (.int 0))) (tdTup (tdCons (tdC (.str "at")) (tdCons (tdC (.str "own")) tdNil))))) (tdRet (tdOp (rdP addD) (tdVar 4) (tdGet2 (tdOp (rdP ixD) (tdVar 1) (tdC (.int 0))) (tdOp (rdP ixD) (tdVar 3) (tdC (.int 1))) (tdC (.int 0))))) tdNext) (tdSeq (tdIfS (tdB (tdOp (rdP (eqR false)) (tdOp (rdP ixD) (tdVar 3) (tdC (.int 0))) (tdC (.str "cell")))) tdDead tdNext) (tdSeq (tdIfS (tdB (tdOp (rdP (eqR false)) (tdOp (rdP ixD) (tdVar 3) (tdC (.int 0))) (tdC (.str "range")))) tdDead tdNext) (tdSeq (tdIfS (tdB (tdOp (rdP (eqR false)) (tdOp (rdP ixD) (tdVar 3) (tdC (.int 0))) (tdC (.str "nought")))) tdDead tdNext) (tdRet (tdOp (rdP addD) (tdVar 4) (tdCall d__law_sum [] (tdCons (tdOp (rdP ixD) (tdVar 3) (tdC (.int 0))) (tdCons (tdCall (P_ 0) [] (tdCons (tdOp (rdP ixD) (tdVar 3) (tdC (.int 1))) (tdCons (tdVar 1) (tdCons (tdVar 2) tdNil)))) (tdCons (tdCall (P_ 0) [] (tdCons (tdOp (rdP ixD) (tdVar 3) (tdC (.int 2))) (tdCons (tdVar 1) (tdCons (tdVar 2) tdNil)))) tdNil)))))))))))))
def D__law_worth : Nat → Nat → SpD
  | 0, _ => spDead
  | n + 1, 0 => mkSp 3 N__law_worth (r__law_worth (D__law_worth n))
  | _ + 1, _ => spDead
abbrev d__law_worth : SpD := D__law_worth 12 0
def fr__law_worth (F_ : Nat → List D → Option D) : FS := (fSeq (fAsg (fVar 0) (.tp (.cons (.nm 3) (.cons (.nm 4) .nil)))) (fSeq (fIfS (fB (fOp (isNF false) (fVarB 3) (fC .non))) (fRet (fVar 4)) fNext) (fSeq (fIfS (fB (fOp (inF false) (fOp ixF (fVarB 3) (fC (.int 0))) (fTup (fCons (fC (.str "at")) (fCons (fC (.str "own")) fNil))))) (fRet (fOp addF (fVarB 4) (fGet2 (fOp ixF (fVarB 1) (fC (.int 0))) (fOp ixF (fVarB 3) (fC (.int 1))) (fC (.int 0))))) fNext) (fSeq (fIfS (fB (fOp (eqF false) (fOp ixF (fVarB 3) (fC (.int 0))) (fC (.str "cell")))) fDead fNext) (fSeq (fIfS (fB (fOp (eqF false) (fOp ixF (fVarB 3) (fC (.int 0))) (fC (.str "range")))) fDead fNext) (fSeq (fIfS (fB (fOp (eqF false) (fOp ixF (fVarB 3) (fC (.int 0))) (fC (.str "nought")))) fDead fNext) (fRet (fOp addF (fVarB 4) (fCall fn__law_sum (fCons (fOp ixF (fVarB 3) (fC (.int 0))) (fCons (fCall (F_ 0) (fCons (fOp ixF (fVarB 3) (fC (.int 1))) (fCons (fVar 1) (fCons (fVar 2) fNil)))) (fCons (fCall (F_ 0) (fCons (fOp ixF (fVarB 3) (fC (.int 2))) (fCons (fVar 1) (fCons (fVar 2) fNil)))) fNil))))))))))))
def F__law_worth : Nat → Nat → List D → Option D
  | 0, _ => fun _ => none
  | n + 1, 0 => fnOf 3 N__law_worth (fr__law_worth (F__law_worth n))
  | _ + 1, _ => fun _ => none
theorem puG__law_worth : ∀ n k, Pure (D__law_worth n k) (F__law_worth n k)
  | 0, _ => pure_dead
  | n + 1, 0 => pure_mk (pu_seq (pu_asg pu_var) (pu_seq (pu_ifS (pu_b (pu_op resp_isN pu_varB (PuE.b pu_c))) (pu_ret pu_var) pu_next) (pu_seq (pu_ifS (pu_b (pu_in (pu_op resp_ix pu_varB (PuE.b pu_c)) (PuE.b (pu_tup (pu_cons pu_c (pu_cons pu_c pu_nil)))))) (pu_ret (pu_op resp_add pu_varB (PuE.b (pu_get2 (PuE.b (pu_op resp_ix pu_varB (PuE.b pu_c))) (pu_op resp_ix pu_varB (PuE.b pu_c)) pu_c)))) pu_next) (pu_seq (pu_ifS (pu_b (pu_op resp_eq (PuE.b (pu_op resp_ix pu_varB (PuE.b pu_c))) (PuE.b pu_c))) pu_dead pu_next) (pu_seq (pu_ifS (pu_b (pu_op resp_eq (PuE.b (pu_op resp_ix pu_varB (PuE.b pu_c))) (PuE.b pu_c))) pu_dead pu_next) (pu_seq (pu_ifS (pu_b (pu_op resp_eq (PuE.b (pu_op resp_ix pu_varB (PuE.b pu_c))) (PuE.b pu_c))) pu_dead pu_next) (pu_ret (pu_op resp_add pu_varB (PuE.b (pu_call pu__law_sum (pu_cons (pu_op resp_ix pu_varB (PuE.b pu_c)) (pu_cons (pu_call (puG__law_worth n 0) (pu_cons (pu_op resp_ix pu_varB (PuE.b pu_c)) (pu_cons pu_var (pu_cons pu_var pu_nil)))) (pu_cons (pu_call (puG__law_worth n 0) (pu_cons (pu_op resp_ix pu_varB (PuE.b pu_c)) (pu_cons pu_var (pu_cons pu_var pu_nil)))) pu_nil)))))))))))))
  | _ + 1, _ + 1 => pure_dead
abbrev fn__law_worth : List D → Option D := F__law_worth 12 0
theorem pu__law_worth : Pure d__law_worth fn__law_worth := puG__law_worth 12 0
abbrev N_law : List Str := ["_law_script", "_law_feed_here", "_law_turn", "_law_one", "_law_other", "_law_kept", "_law_word", "_law_told", "_law_start", "_law_due"]
def rr_law : TSD := (tdSeq (tdFor (tdRng1 (tdCons (tdC (.int 12)) tdNil)) (.nm 2) (tdSeq (tdPar [3, 4] (tdCons (tdCall d__law_drawn [] (tdCons (tdVar 1) (tdCons (tdC (.int 3)) tdNil))) (tdCons (tdCall d__law_drawn [] (tdCons (tdVar 1) (tdCons (tdC (.int 2)) tdNil))) tdNil))) (tdSeq (tdAsg (tdCB (rdC reprR) (tdCons (tdTup (tdCons (tdVar 3) (tdCons (tdVar 4) tdNil))) tdNil)) (.nm 5)) (tdFor (tdSeqI (tdTup (tdCons (tdC (.str "+")) (tdCons (tdC (.str "-")) (tdCons (tdC (.str "*")) (tdCons (tdC (.str "<")) (tdCons (tdC (.str "/")) tdNil))))))) (.nm 6) (tdSeq (tdAsg (tdCall d_made_of [] (tdCons (tdVar 6) (tdCons (tdVar 3) (tdCons (tdVar 4) tdNil)))) (.nm 7)) (tdSeq (tdIfS (tdB (tdOp (rdP (eqR true)) (tdCB (rdC reprR) (tdCons (tdVar 7) tdNil)) (tdCB (rdC reprR) (tdCons (tdCall d__law_made [] (tdCons (tdVar 6) (tdCons (tdVar 3) (tdCons (tdVar 4) tdNil)))) tdNil)))) (tdRet (tdC (.bl false))) tdNext) (tdSeq (tdAsg (tdTup (tdCons (tdDisp ["a", "b"] (tdCons (tdOp (rdP subD) (tdCall d__law_draw [] (tdCons (tdVar 1) (tdCons (tdC (.int 9)) tdNil))) (tdC (.int 4))) (tdCons (tdOp (rdP subD) (tdCall d__law_draw [] (tdCons (tdVar 1) (tdCons (tdC (.int 3)) tdNil))) (tdC (.int 1))) tdNil))) (tdCons tdDict0 tdNil))) (.nm 8)) (tdSeq (tdAsg (tdCall d__law_sum [] (tdCons (tdVar 6) (tdCons (tdCall d__law_worth [] (tdCons (tdVar 3) (tdCons (tdVar 8) (tdCons (tdC (.int 1)) tdNil)))) (tdCons (tdCall d__law_worth [] (tdCons (tdVar 4) (tdCons (tdVar 8) (tdCons (tdC (.int 1)) tdNil)))) tdNil)))) (.nm 9)) (tdIfS (tdOr (tdB (tdOp (rdP (eqR true)) (tdCall d__law_worth [] (tdCons (tdVar 7) (tdCons (tdVar 8) (tdCons (tdC (.int 1)) tdNil)))) (tdVar 9))) (tdB (tdOp (rdP (eqR true)) (tdCB (rdC reprR) (tdCons (tdTup (tdCons (tdVar 3) (tdCons (tdVar 4) tdNil))) tdNil)) (tdVar 5)))) (tdRet (tdC (.bl false))) tdNext))))))))) (tdRet (tdC (.bl true))))
def r_law : TSD := (tdSeq (tdAsg (tdCall d__law_feed [] (tdCons (tdVar 0) tdNil)) (.nm 1)) rr_law)
def d_law : SpD := mkSp 1 N_law r_law
def gr_law (y : Addr) : GS := (gSeq (gClr [0, 2, 3, 4, 5, 6, 7, 8, 9] (gFor (gA (fRng1 (fCons (fC (.int 12)) fNil))) (.nm 2) (gClrB [2, 3, 4, 5, 6, 7, 8, 9] (gSeq (gPar [3, 4] (gVVal (gCall (gn__law_drawn y) (gA (fCons (fVar 1) (fCons (fC (.int 3)) fNil)))) (gVVal (gCall (gn__law_drawn y) (gA (fCons (fVar 1) (fCons (fC (.int 2)) fNil)))) gVNil))) (gSeq (gS (fAsg (fCB reprF (fCons (fTup (fCons (fVar 3) (fCons (fVar 4) fNil))) fNil)) (.nm 5))) (gClr [0, 2, 6, 7, 8, 9] (gFor (gA (fSeqI (fTup (fCons (fC (.str "+")) (fCons (fC (.str "-")) (fCons (fC (.str "*")) (fCons (fC (.str "<")) (fCons (fC (.str "/")) fNil)))))))) (.nm 6) (gClrB [6, 7, 8, 9] (gSeq (gS (fAsg (fCall fn_made_of (fCons (fVar 6) (fCons (fVar 3) (fCons (fVar 4) fNil)))) (.nm 7))) (gSeq (gS (fIfS (fB (fOp (eqF true) (fCB reprF (fCons (fVarB 7) fNil)) (fCB reprF (fCons (fCall fn__law_made (fCons (fVar 6) (fCons (fVar 3) (fCons (fVar 4) fNil)))) fNil)))) (fRet (fC (.bl false))) fNext)) (gSeq (gAsg (gTup (gCons (gDisp ["a", "b"] (gCons (gOp subF (gCall (drawG y) (gA (fCons (fVar 1) (fCons (fC (.int 9)) fNil)))) (gE (fC (.int 4)))) (gCons (gOp subF (gCall (drawG y) (gA (fCons (fVar 1) (fCons (fC (.int 3)) fNil)))) (gE (fC (.int 1)))) (gA fNil)))) (gCons (gE (fC (.dct [] []))) (gA fNil)))) (.nm 8)) (gSeq (gS (fAsg (fCall fn__law_sum (fCons (fVar 6) (fCons (fCall fn__law_worth (fCons (fVar 3) (fCons (fVar 8) (fCons (fC (.int 1)) fNil)))) (fCons (fCall fn__law_worth (fCons (fVar 4) (fCons (fVar 8) (fCons (fC (.int 1)) fNil)))) fNil)))) (.nm 9))) (gS (fIfS (fOr (fB (fOp (eqF true) (fCall fn__law_worth (fCons (fVar 7) (fCons (fVar 8) (fCons (fC (.int 1)) fNil)))) (fVarB 9))) (fB (fOp (eqF true) (fCB reprF (fCons (fTup (fCons (fVar 3) (fCons (fVar 4) fNil))) fNil)) (fVarB 5)))) (fRet (fC (.bl false))) fNext)))))))))))))) (gS (fRet (fC (.bl true)))))
theorem gus_law {F : Feed} (hd : PureG F d__law_draw (drawG F.y)) : GuS F rr_law (gr_law F.y) := (gu_seq (gu_clr (gu_for (gu_i (pu_rng1 (pu_cons pu_c pu_nil))) (gu_clrB (gu_seq (gu_par (gu_vval (gu_call (gu__law_drawn hd) (gu_a (pu_cons pu_var (pu_cons pu_c pu_nil)))) (gu_vval (gu_call (gu__law_drawn hd) (gu_a (pu_cons pu_var (pu_cons pu_c pu_nil)))) gu_vnil))) (gu_seq (gu_s (pu_asg (pu_cb resp_repr (pu_consB (PuE.b (pu_tup (pu_cons pu_var (pu_cons pu_var pu_nil)))) pu_nilB)))) (gu_clr (gu_for (gu_i (pu_seqI (pu_tup (pu_cons pu_c (pu_cons pu_c (pu_cons pu_c (pu_cons pu_c (pu_cons pu_c pu_nil)))))))) (gu_clrB (gu_seq (gu_s (pu_asg (pu_call pu_made_of (pu_cons pu_var (pu_cons pu_var (pu_cons pu_var pu_nil)))))) (gu_seq (gu_s (pu_ifS (pu_b (pu_op resp_eq (PuE.b (pu_cb resp_repr (pu_consB pu_varB pu_nilB))) (PuE.b (pu_cb resp_repr (pu_consB (PuE.b (pu_call pu__law_made (pu_cons pu_var (pu_cons pu_var (pu_cons pu_var pu_nil))))) pu_nilB))))) (pu_ret pu_c) pu_next)) (gu_seq (gu_asg (gu_tup (gu_cons (gu_disp (gu_cons (gu_op (RespB.e resp_sub) (gu_call hd (gu_a (pu_cons pu_var (pu_cons pu_c pu_nil)))) (gu_e pu_c)) (gu_cons (gu_op (RespB.e resp_sub) (gu_call hd (gu_a (pu_cons pu_var (pu_cons pu_c pu_nil)))) (gu_e pu_c)) gu_nil))) (gu_cons (gu_e pu_c) gu_nil)))) (gu_seq (gu_s (pu_asg (pu_call pu__law_sum (pu_cons pu_var (pu_cons (pu_call pu__law_worth (pu_cons pu_var (pu_cons pu_var (pu_cons pu_c pu_nil)))) (pu_cons (pu_call pu__law_worth (pu_cons pu_var (pu_cons pu_var (pu_cons pu_c pu_nil)))) pu_nil)))))) (gu_s (pu_ifS (pu_or (pu_b (pu_op resp_eq (PuE.b (pu_call pu__law_worth (pu_cons pu_var (pu_cons pu_var (pu_cons pu_c pu_nil))))) pu_varB)) (pu_b (pu_op resp_eq (PuE.b (pu_cb resp_repr (pu_consB (PuE.b (pu_tup (pu_cons pu_var (pu_cons pu_var pu_nil)))) pu_nilB))) pu_varB))) (pu_ret pu_c) pu_next)))))))))))))) (gu_s (pu_ret pu_c)))
end Lk41

namespace Lk41
open PySem PySem.Spec PyProof.Rows L2 PL
theorem draw {ns : List Int} (hns : ns.length ≤ 63) (y : Addr) : PureG (feed3 ns y) d__law_draw (drawG y) := draw_mk (F := feed3 ns y) fun {m n S Q} ⟨t, left, hS, ht⟩ hm hm2 hn q => by
  have q : ∀ k S', 0 ≤ k → k < m → (feed3 ns y).ok (n + 1) S' → Only y S S' → Q (.int k) S' := q
  show r__law_draw ⟨_, _, _, _⟩ [some (.ref y), some (.int m), none, none, none, none] S
  unfold r__law_draw
  have hok := ok_ints ns
  have hf : ∀ f, CFd f m := fun f => cfd hm hm2
  have hp : CPow 10 18 := by unfold CPow; decide
  have ht9 : t ≤ 1000000000 := by have : n < 1000000000 := hn; omega
  cases ns <;> (repeat' (first | with_reducible refine p_modB (by decide) fun x x0 x1 => ?_ | with_reducible refine p_mulZA (by omega) (by omega) fun z hz => ?_ | with_reducible refine p_mulZB (by omega) (by omega) fun z hz => ?_ | with_reducible refine p_mulZC (by omega) (by omega) fun z hz => ?_ | with_reducible refine p_mulZD (by omega) (by omega) fun z => ?_ | with_reducible refine p_fdivC (by decide) (by decide) ?_ | with_reducible refine p_fdiv (hf _) ?_ | with_reducible refine p_mod (by rw [List.length_map, List.length_cons]; omega) ?_ | refine p_cell (by simp) (fun z => ?_) _ rfl | with_reducible refine p_seq ?_ | with_reducible refine p_next ?_ | with_reducible refine p_var (by with_unfolding_all rfl) ?_ | with_reducible refine p_c ?_ | with_reducible refine p_op ?_ | with_reducible refine p_cb ?_ | with_reducible refine p_call ?_ | with_reducible refine p_cons ?_ | with_reducible refine p_nil ?_ | with_reducible refine p_tup ?_ | with_reducible refine p_lst ?_ | with_reducible refine p_b ?_ | with_reducible refine p_qb ?_ | with_reducible refine p_and ?_ | with_reducible refine p_or ?_ | with_reducible refine p_not ?_ | with_reducible refine p_andV ?_ | with_reducible refine p_orV ?_ | with_reducible refine p_notV ?_ | with_reducible refine p_if ?_ | with_reducible refine p_ifS ?_ | with_reducible refine p_un ?_ | with_reducible refine p_neg ?_ | with_reducible refine p_ret ?_ | with_reducible refine p_retN ?_ | with_reducible refine p_drop ?_ | with_reducible refine p_asg' ?_ | with_reducible refine p_par ?_ | with_reducible refine p_setI ?_ | with_reducible refine p_sl ?_ | with_reducible refine p_noPart ?_ | with_reducible refine p_part ?_ | with_reducible refine p_partI ?_ | with_reducible refine p_kin ?_ | with_reducible refine p_kget ?_ | with_reducible refine p_lm ?_ | with_reducible refine p_for ?_ | with_reducible refine p_seqI ?_ | with_reducible refine p_seqL ?_ | with_reducible refine p_seqT ?_ | with_reducible refine p_rng1 ?_ | with_reducible refine p_rng1I (by unfold rng1; first | decide | (constructor <;> omega)) ?_ | with_reducible refine p_yes ?_ | with_reducible refine p_chain ?_ | with_reducible refine p_callK ?_ | with_reducible refine p_lc ?_ | with_reducible refine p_disp fun _ hp0 => ?_ | with_reducible refine p_get2 ?_ | with_reducible refine p_bindM (by with_unfolding_all rfl) ?_ | with_reducible refine p_mulI (by first | decide | omega) (by first | decide | omega) ?_ | with_reducible refine p_mod (by first | decide | omega | assumption) ?_ | with_reducible refine p_sub ?_ | with_reducible refine p_min ?_ | with_reducible refine p_max ?_ | with_reducible refine p_ix0 ?_ | with_reducible refine p_ix0L ?_ | with_reducible refine p_inT (by first | decide +kernel | exact ⟨rfl, rfl⟩ | (simp [flD]; done)) ?_ | with_reducible refine p_notInT (by first | decide +kernel | exact ⟨rfl, rfl⟩ | (simp [flD]; done)) ?_ | with_reducible refine p_fdiv (by first | assumption | decide) ?_ | with_reducible refine p_pow (by unfold CPow; decide) ?_ | with_reducible refine p_lt ?_ | with_reducible refine p_le ?_ | with_reducible refine p_gt ?_ | with_reducible refine p_ge ?_ | with_reducible refine p_eqI ?_ | with_reducible refine p_neI ?_ | with_reducible refine p_eqL (by first | decide +kernel | assumption) (by first | decide +kernel | assumption) ?_ | with_reducible refine p_neL (by first | decide +kernel | assumption) (by first | decide +kernel | assumption) ?_ | with_reducible refine p_eqT (by first | decide +kernel | assumption) (by first | decide +kernel | assumption) ?_ | with_reducible refine p_neT (by first | decide +kernel | assumption) (by first | decide +kernel | assumption) ?_ | with_reducible refine p_eqS (by first | decide +kernel | assumption) (by first | decide +kernel | assumption) ?_ | with_reducible refine p_neS (by first | decide +kernel | assumption) (by first | decide +kernel | assumption) ?_ | with_reducible refine p_isi (by with_unfolding_all rfl) (by decide) ?_ | with_reducible refine p_lmO (by first | assumption | exact sup_same) ?_ | with_reducible refine p_lmE (by first | assumption | exact sup_same) (by with_unfolding_all rfl) (by (first | exact True.intro | exact szl | (with_reducible assumption) | decide | (simp only [List.length_cons, List.length_nil]; first | exact szl | omega) | omega)) ?_ | with_reducible refine p_freeze (by with_unfolding_all rfl) (by first | assumption | exact sup_same) ?_ | with_reducible refine p_dispE (by assumption) (by with_unfolding_all rfl) ?_ | with_reducible refine p_getI (by with_unfolding_all rfl) ?_ | with_reducible refine p_getS (by with_unfolding_all rfl) (by with_unfolding_all rfl) (by first | with_unfolding_all rfl | with_unfolding_all assumption) ?_ | with_reducible refine p_getN (by with_unfolding_all rfl) (by with_unfolding_all rfl) (by first | with_unfolding_all rfl | with_unfolding_all assumption) ?_ | with_reducible refine p_r (by with_unfolding_all rfl) (by (first | exact True.intro | exact szl | (with_reducible assumption) | decide | (simp only [List.length_cons, List.length_nil]; first | exact szl | omega) | omega)) ?_ | with_reducible refine p_rc (by with_unfolding_all rfl) (by (first | exact True.intro | exact szl | (with_reducible assumption) | decide | (simp only [List.length_cons, List.length_nil]; first | exact szl | omega) | omega)) ?_ | with_reducible refine p_ixS (by first | assumption | exact sup_same) (by with_unfolding_all rfl) ?_ | with_reducible refine p_set (by first | assumption | exact sup_same) (by with_unfolding_all rfl) ?_ | with_reducible refine p_onE (by with_unfolding_all rfl) (by (first | exact True.intro | exact szl | (with_reducible assumption) | decide | (simp only [List.length_cons, List.length_nil]; first | exact szl | omega) | omega)) ?_ | with_reducible refine p_kgetS (by first | with_unfolding_all rfl | with_unfolding_all assumption) ?_ | with_reducible refine p_kinT (by first | with_unfolding_all rfl | with_unfolding_all assumption) ?_ | with_reducible refine p_kinF (by first | with_unfolding_all rfl | with_unfolding_all assumption) ?_ | with_reducible refine p_nkinT (by first | with_unfolding_all rfl | with_unfolding_all assumption) ?_ | with_reducible refine p_nkinF (by first | with_unfolding_all rfl | with_unfolding_all assumption) ?_ | with_reducible refine p_T (by with_unfolding_all rfl) ?_ | with_reducible refine p_F (by with_unfolding_all rfl) ?_ | with_reducible refine And.intro (a := List.length _ ≤ sizeLine) szl ?_ | with_reducible refine And.intro (a := List.length _ = _) (by with_unfolding_all rfl) ?_ | refine p_iteD (fun h => ?_) (fun h => ?_)))
  all_goals first
    | exact q _ _ (fmod_lo hm) (fmod_hi hm) ⟨t, _, sup_same, by omega⟩ only_sup
    | exact q _ _ (fmod_lo hm) (fmod_hi hm) ⟨t + 1, _, sup_same, by omega⟩ only_sup
    | exact q _ _ (fmod_lo hm) (fmod_hi hm) ⟨t + 1, _, sup_same, by omega⟩ (only_sup.trans only_sup)
end Lk41

namespace Lk41
open PySem PySem.Spec PyProof.Rows L2 PL
inductive Wd where | add | sub | mul | lt | div
def Wd.s : Wd → Str
  | .add => "+" | .sub => "-" | .mul => "*" | .lt => "<" | .div => "/"
inductive Tm where
  | c (n : Int) | v (w x : Bool) (n : Int) | op (w : Wd) (a b : Tm) (n : Int)
def Tm.d : Tm → D
  | .c n => .tup [.non, .int n]
  | .v w x n => .tup [.tup [.str (bif w then "own" else "at"), .str (bif x then "b" else "a")], .int n]
  | .op w a b n => .tup [.tup [.str w.s, a.d, b.d], .int n]
def Tm.n : Tm → Int
  | .c n => n
  | .v _ _ n => n
  | .op _ _ _ n => n
def sm : Wd → Int → Int → Int
  | .add, i, j => i + j | .sub, i, j => i - j | .mul, i, j => i * j | .lt, i, j => if decide (i < j) = true then 1 else 0 | .div, i, j => if j = 0 then 0 else i.fdiv j
abbrev Sm (i : Int) : Prop := i.natAbs < MB
theorem sum_ok (w : Wd) {i j : Int} (hi : Sm i) (hj : Sm j) : fn__law_sum [.str w.s, .int i, .int j] = some (.int (sm w i j)) := by
  cases w
  · with_unfolding_all rfl
  · with_unfolding_all rfl
  · (repeat' (first | exact mulF_ok hi hj | (with_unfolding_all rfl) | apply e_fn (by with_unfolding_all rfl) | apply e_B | (apply e_if1; · first | with_unfolding_all rfl | with_unfolding_all assumption | (simp only [*, if_false, if_true, Bool.false_eq_true, Bool.not_false, Bool.not_true] <;> fail)) | (apply e_if0; · first | with_unfolding_all rfl | with_unfolding_all assumption | (simp only [*, if_false, if_true, Bool.false_eq_true, Bool.not_false, Bool.not_true] <;> fail)) | (apply e_lm; · decide) | apply e_part | apply e_map | apply e_bind))
  · with_unfolding_all rfl
  · show fn__law_sum _ = some (D.int (if j = 0 then 0 else i.fdiv j))
    by_cases h : j = 0
    · subst h
      with_unfolding_all rfl
    · have h' : eqD (.int j) (.int 0) = false := by rw [eqD_int, decide_eq_false h]
      rw [if_neg h]
      (repeat' (first | exact fdivF_ok h hj | (with_unfolding_all rfl) | apply e_fn (by with_unfolding_all rfl) | apply e_B | (apply e_if1; · first | with_unfolding_all rfl | with_unfolding_all assumption | (simp only [*, if_false, if_true, Bool.false_eq_true, Bool.not_false, Bool.not_true] <;> fail)) | (apply e_if0; · first | with_unfolding_all rfl | with_unfolding_all assumption | (simp only [*, if_false, if_true, Bool.false_eq_true, Bool.not_false, Bool.not_true] <;> fail)) | (apply e_lm; · decide) | apply e_part | apply e_map | apply e_bind))
def Tm.isc : Tm → Bool
  | .c _ => true
  | _ => false
def Tm.more (k : Int) : Tm → Tm
  | .c n => .c (n + k)
  | .v w x n => .v w x (n + k)
  | .op w a b n => .op w a b (n + k)
def made (w : Wd) (a b : Tm) : Tm := match w with
  | .add => bif a.isc then (bif b.isc then .c (a.n + b.n) else b.more a.n) else bif b.isc then a.more b.n else .op .add a b 0
  | .sub => bif b.isc then (bif a.isc then .c (a.n - b.n) else a.more (0 - b.n)) else .op .sub a b 0
  | .mul => bif a.isc && b.isc then .c (a.n * b.n) else .op .mul a b 0
  | .lt => bif a.isc && b.isc then .c (sm .lt a.n b.n) else .op .lt a b 0
  | .div => bif a.isc && b.isc && !eqD (.int b.n) (.int 0) then .c (a.n.fdiv b.n) else .op .div a b 0
theorem lawmade_ok (w : Wd) (a b : Tm) (ha : Sm a.n) (hb : Sm b.n) : fn__law_made [.str w.s, a.d, b.d] = some (made w a b).d := by
  cases w
  · cases a <;> cases b <;> with_unfolding_all rfl
  · cases a <;> cases b <;> first | (with_unfolding_all rfl) | skip
    · rename_i w x n m
      show _ = some (D.tup [.tup [_, _], .int (n + (0 - m))])
      rw [show n + (0 - m) = n - m by omega]
      with_unfolding_all rfl
    · rename_i w x y n m
      show _ = some (D.tup [.tup [_, _, _], .int (n + (0 - m))])
      rw [show n + (0 - m) = n - m by omega]
      with_unfolding_all rfl
  · cases a <;> cases b <;> first | (with_unfolding_all rfl) | (repeat' (first | exact sum_ok .mul ha hb | (with_unfolding_all rfl) | apply e_fn (by with_unfolding_all rfl) | apply e_B | (apply e_if1; · first | with_unfolding_all rfl | with_unfolding_all assumption | (simp only [*, if_false, if_true, Bool.false_eq_true, Bool.not_false, Bool.not_true] <;> fail)) | (apply e_if0; · first | with_unfolding_all rfl | with_unfolding_all assumption | (simp only [*, if_false, if_true, Bool.false_eq_true, Bool.not_false, Bool.not_true] <;> fail)) | (apply e_lm; · decide) | apply e_part | apply e_map | apply e_bind))
  · cases a <;> cases b <;> with_unfolding_all rfl
  · cases a <;> cases b <;> try (with_unfolding_all rfl)
    rename_i i j
    by_cases h : j = 0
    · subst h
      with_unfolding_all rfl
    · have h' : eqD (.int j) (.int 0) = false := by rw [eqD_int, decide_eq_false h]
      have e : sm .div i j = i.fdiv j := if_neg h
      have e2 : made .div (.c i) (.c j) = Tm.c (i.fdiv j) := by
        show (bif true && true && !eqD (.int j) (.int 0) then _ else _) = _
        rw [h']; rfl
      rw [e2]
      have hs := sum_ok .div (i := i) (j := j) ha hb
      rw [e] at hs
      (repeat' (first | exact hs | (with_unfolding_all rfl) | apply e_fn (by with_unfolding_all rfl) | apply e_B | (apply e_if1; · first | with_unfolding_all rfl | with_unfolding_all assumption | (simp only [*, if_false, if_true, Bool.false_eq_true, Bool.not_false, Bool.not_true] <;> fail)) | (apply e_if0; · first | with_unfolding_all rfl | with_unfolding_all assumption | (simp only [*, if_false, if_true, Bool.false_eq_true, Bool.not_false, Bool.not_true] <;> fail)) | (apply e_lm; · decide) | apply e_part | apply e_map | apply e_bind))
theorem made_ok (w : Wd) (a b : Tm) (ha : Sm a.n) (hb : Sm b.n) : fn_made_of [.str w.s, a.d, b.d] = some (made w a b).d := by
  cases w
  · cases a <;> cases b <;> with_unfolding_all rfl
  · cases a <;> cases b <;> with_unfolding_all rfl
  · cases a <;> cases b <;> first | (with_unfolding_all rfl) | (repeat' (first | exact mulF_ok ha hb | (with_unfolding_all rfl) | apply e_fn (by with_unfolding_all rfl) | apply e_B | (apply e_if1; · first | with_unfolding_all rfl | with_unfolding_all assumption | (simp only [*, if_false, if_true, Bool.false_eq_true, Bool.not_false, Bool.not_true] <;> fail)) | (apply e_if0; · first | with_unfolding_all rfl | with_unfolding_all assumption | (simp only [*, if_false, if_true, Bool.false_eq_true, Bool.not_false, Bool.not_true] <;> fail)) | (apply e_lm; · decide) | apply e_part | apply e_map | apply e_bind))
  · cases a <;> cases b <;> with_unfolding_all rfl
  · cases a <;> cases b <;> try (with_unfolding_all rfl)
    rename_i i j
    by_cases h : j = 0
    · subst h
      with_unfolding_all rfl
    · have h' : eqD (.int j) (.int 0) = false := by rw [eqD_int, decide_eq_false h]
      have e2 : made .div (.c i) (.c j) = Tm.c (i.fdiv j) := by
        show (bif true && true && !eqD (.int j) (.int 0) then _ else _) = _
        rw [h']; rfl
      rw [e2]
      (repeat' (first | exact fdivF_ok h hb | (with_unfolding_all rfl) | apply e_fn (by with_unfolding_all rfl) | apply e_B | (apply e_if1; · first | with_unfolding_all rfl | with_unfolding_all assumption | (simp only [*, if_false, if_true, Bool.false_eq_true, Bool.not_false, Bool.not_true] <;> fail)) | (apply e_if0; · first | with_unfolding_all rfl | with_unfolding_all assumption | (simp only [*, if_false, if_true, Bool.false_eq_true, Bool.not_false, Bool.not_true] <;> fail)) | (apply e_lm; · decide) | apply e_part | apply e_map | apply e_bind))
end Lk41

namespace Lk41
open PySem PySem.Spec PyProof.Rows L2 PL
def Tm.w (va vb : Int) : Tm → Int
  | .c n => n
  | .v _ x n => n + (bif x then vb else va)
  | .op w a b n => n + sm w (a.w va vb) (b.w va vb)
def Tm.dep : Tm → Nat
  | .c _ => 0
  | .v _ _ _ => 0
  | .op _ a b _ => max a.dep b.dep + 1
/-- all numbers within are small -/
def Bd (B : Nat) : Tm → Prop
  | .c n => n.natAbs < B
  | .v _ _ n => n.natAbs + 4 < B
  | .op w a b n => Bd B a ∧ Bd B b ∧ n.natAbs < B ∧ ∀ va vb : Int, va.natAbs ≤ 4 → vb.natAbs ≤ 4 → (n + sm w (a.w va vb) (b.w va vb)).natAbs < B
theorem Bd.n {B : Nat} {t : Tm} (h : Bd B t) : t.n.natAbs < B := by
  cases t with
  | c n => exact h
  | v _ _ n => have : n.natAbs + 4 < B := h; show n.natAbs < B; omega
  | op w a b n => exact h.2.2.1
theorem Bd.w {B : Nat} {t : Tm} (h : Bd B t) {va vb : Int} (ha : va.natAbs ≤ 4) (hb : vb.natAbs ≤ 4) : (t.w va vb).natAbs < B := by
  cases t with
  | c n => exact h
  | v _ x n => have : n.natAbs + 4 < B := h; show (n + (bif x then vb else va)).natAbs < B; cases x <;> simp only [cond_true, cond_false] <;> omega
  | op w a b n => exact h.2.2.2 va vb ha hb
theorem Bd.mono {B C : Nat} (hl : B ≤ C) : ∀ {t : Tm}, Bd B t → Bd C t
  | .c n, h => Nat.lt_of_lt_of_le (m := B) h hl
  | .v _ _ n, h => Nat.lt_of_lt_of_le (m := B) h hl
  | .op w a b n, h => ⟨h.1.mono hl, h.2.1.mono hl, Nat.lt_of_lt_of_le h.2.2.1 hl, fun va vb x y => Nat.lt_of_lt_of_le (h.2.2.2 va vb x y) hl⟩
theorem fdiv_abs (i j : Int) : (i.fdiv j).natAbs ≤ i.natAbs + 1 := by
  by_cases hj : j = 0
  · subst hj; simp
  by_cases h : 0 ≤ j
  · rw [Int.fdiv_eq_ediv_of_nonneg _ h]
    have := Int.natAbs_ediv_le_natAbs i j
    omega
  · have := Int.natAbs_ediv_le_natAbs i j
    rw [Int.fdiv_eq_ediv]
    split <;> omega
theorem sm_abs {B : Nat} (w : Wd) {i j : Int} (hi : i.natAbs < B) (hj : j.natAbs < B) : (sm w i j).natAbs < B * B + B + 2 := by
  have hB : B ≤ B * B := Nat.le_mul_self B
  cases w with
  | add => show (i + j).natAbs < _; omega
  | sub => show (i - j).natAbs < _; omega
  | mul =>
    show (i * j).natAbs < _
    rw [Int.natAbs_mul]
    have := Nat.mul_lt_mul'' hi hj
    omega
  | lt => show (if decide (i < j) = true then (1 : Int) else 0).natAbs < _; split <;> omega
  | div =>
    show (if j = 0 then 0 else i.fdiv j).natAbs < _
    have := fdiv_abs i j
    split <;> omega
theorem more_w (k va vb : Int) (t : Tm) : (t.more k).w va vb = t.w va vb + k := by
  cases t <;> simp only [Tm.more, Tm.w] <;> omega
theorem c_w {t : Tm} (h : t.isc = true) (va vb : Int) : t.w va vb = t.n := by
  cases t with
  | c n => rfl
  | v _ _ _ => cases h
  | op _ _ _ _ => cases h
/-- the number of what is made -/
theorem made_w (w : Wd) (a b : Tm) (va vb : Int) : (made w a b).w va vb = sm w (a.w va vb) (b.w va vb) := by
  cases ha : a.isc <;> cases hb : b.isc <;> cases w <;> simp only [made, ha, hb, Bool.and_true, Bool.true_and, Bool.and_false, Bool.false_and, cond_true, cond_false]
  all_goals try (show (0 : Int) + _ = _; rw [Int.zero_add])
  all_goals try rw [more_w]
  all_goals try rw [c_w ha]
  all_goals try rw [c_w hb]
  all_goals try rfl
  all_goals try (simp only [sm]; omega)
  cases h : eqD (.int b.n) (.int 0)
  · simp only [Bool.not_false, cond_true]
    rw [eqD_int] at h
    show a.n.fdiv b.n = if b.n = 0 then 0 else a.n.fdiv b.n
    rw [if_neg (of_decide_eq_false h)]
  · simp only [Bool.not_true, cond_false]
    show (0 : Int) + sm .div (a.w va vb) (b.w va vb) = _
    rw [Int.zero_add, c_w ha, c_w hb]
theorem more_bd {B C : Nat} {k : Int} {t : Tm} (h : Bd B t) (hl : B + k.natAbs + 1 ≤ C) : Bd C (t.more k) := by
  cases t with
  | c n => have : n.natAbs < B := h; show (n + k).natAbs < C; omega
  | v _ _ n => have : n.natAbs + 4 < B := h; show (n + k).natAbs + 4 < C; omega
  | op w a b n =>
    refine ⟨h.1.mono (by omega), h.2.1.mono (by omega), ?_, fun va vb ha hb => ?_⟩
    · have := h.2.2.1; show (n + k).natAbs < C; omega
    · have := h.2.2.2 va vb ha hb; omega
theorem made_bd {B : Nat} (w : Wd) {a b : Tm} (ha : Bd B a) (hb : Bd B b) : Bd (B * B + 2 * B + 3) (made w a b) := by
  have hB : B ≤ B * B := Nat.le_mul_self B
  have an := ha.n
  have bn := hb.n
  have hc : ∀ n : Int, n.natAbs < B * B + B + 2 → Bd (B * B + 2 * B + 3) (.c n) := fun n h => Nat.lt_of_lt_of_le h (by omega)
  have ho : ∀ w : Wd, Bd (B * B + 2 * B + 3) (.op w a b 0) := fun w => ⟨ha.mono (by omega), hb.mono (by omega), by show (0 : Int).natAbs < _; omega, fun va vb x y => by
    have := sm_abs w (ha.w x y) (hb.w x y)
    rw [Int.zero_add]; omega⟩
  cases w <;> simp only [made]
  · cases a.isc <;> cases b.isc <;> simp only [cond_true, cond_false]
    · exact ho .add
    · exact more_bd ha (by omega)
    · exact more_bd hb (by omega)
    · exact hc _ (by omega)
  · cases a.isc <;> cases b.isc <;> simp only [cond_true, cond_false]
    · exact ho .sub
    · exact more_bd ha (by omega)
    · exact ho .sub
    · exact hc _ (by omega)
  · cases a.isc && b.isc <;> simp only [cond_true, cond_false]
    · exact ho .mul
    · exact hc _ (sm_abs .mul an bn)
  · cases a.isc && b.isc <;> simp only [cond_true, cond_false]
    · exact ho .lt
    · exact hc _ (sm_abs .lt an bn)
  · cases a.isc && b.isc && !eqD (.int b.n) (.int 0) <;> simp only [cond_true, cond_false]
    · exact ho .div
    · exact hc _ (by have := fdiv_abs a.n b.n; omega)
theorem more_dep (k : Int) (t : Tm) : (t.more k).dep = t.dep := by cases t <;> rfl
theorem made_dep (w : Wd) (a b : Tm) : (made w a b).dep ≤ max a.dep b.dep + 1 := by
  cases w <;> simp only [made]
  · cases a.isc <;> cases b.isc <;> simp only [cond_true, cond_false, Tm.dep, more_dep] <;> omega
  · cases a.isc <;> cases b.isc <;> simp only [cond_true, cond_false, Tm.dep, more_dep] <;> omega
  · cases a.isc && b.isc <;> simp only [cond_true, cond_false, Tm.dep] <;> omega
  · cases a.isc && b.isc <;> simp only [cond_true, cond_false, Tm.dep] <;> omega
  · cases a.isc && b.isc && !eqD (.int b.n) (.int 0) <;> simp only [cond_true, cond_false, Tm.dep] <;> omega
abbrev stD (va vb : Int) : D := .tup [.dct [.str "a", .str "b"] [.int va, .int vb], .dct [] []]
theorem worth_ok {B : Nat} (hB : B ≤ MB) {va vb : Int} (hva : va.natAbs ≤ 4) (hvb : vb.natAbs ≤ 4) : ∀ (t : Tm) (k : Nat), t.dep < k → Bd B t → F__law_worth k 0 [t.d, stD va vb, .int 1] = some (.int (t.w va vb))
  | .c n, k + 1, _, _ => by with_unfolding_all rfl
  | .v w x n, k + 1, _, _ => by cases w <;> cases x <;> with_unfolding_all rfl
  | .op w a b n, k + 1, hk, hb => by
    have hk : max a.dep b.dep + 1 < k + 1 := hk
    have ha := worth_ok hB hva hvb a k (by omega) hb.1
    have hb' := worth_ok hB hva hvb b k (by omega) hb.2.1
    have hs := sum_ok w (Nat.lt_of_lt_of_le (hb.1.w hva hvb) hB) (Nat.lt_of_lt_of_le (hb.2.1.w hva hvb) hB)
    cases w <;> (repeat' (first | exact ha | exact hb' | exact hs | (with_unfolding_all rfl) | apply e_fn (by with_unfolding_all rfl) | apply e_B | (apply e_if1; · first | with_unfolding_all rfl | with_unfolding_all assumption | (simp only [*, if_false, if_true, Bool.false_eq_true, Bool.not_false, Bool.not_true] <;> fail)) | (apply e_if0; · first | with_unfolding_all rfl | with_unfolding_all assumption | (simp only [*, if_false, if_true, Bool.false_eq_true, Bool.not_false, Bool.not_true] <;> fail)) | (apply e_lm; · decide) | apply e_part | apply e_map | apply e_bind))
/-! ### what is shown of a term -/
theorem okd_big {i : Int} (h : i.natAbs < 10 ^ 150) : Okd (.int i) 0 151 where
  dt := rfl
  lay := rfl
  dep := Nat.le_refl _
  sh := by
    show decide (i.natAbs.log2 < 1920) = true
    have : i.natAbs < 2 ^ 500 := Nat.lt_trans h (by decide +kernel)
    have := l2lt this (by decide)
    exact decide_eq_true (by omega)
  len := by
    show (Str.ofString (toString i)).length ≤ 151
    rw [PySem.ofString_length]
    exact int_text_length_le10 (k := 150) (by decide) h
def tW : Nat → Nat
  | 0 => 400
  | k + 1 => 6 * tW k + 30
theorem tW_le (k : Nat) : 400 ≤ tW k := by
  induction k with
  | zero => exact Nat.le_refl _
  | succ k ih => show _ ≤ 6 * tW k + 30; omega
theorem two_okd {a b : D} {k w : Nat} (h1 : Okd a k w) (h2 : Okd b k w) : Okd (.tup [a, b]) (k + 1) (2 * (w + 2) + 3) := okd_tup (fun d hd => by
  simp only [List.mem_cons, List.not_mem_nil, or_false] at hd
  rcases hd with rfl | rfl
  · exact h1
  · exact h2) (Nat.le_refl 2)
theorem three_okd {a b c : D} {k w : Nat} (h1 : Okd a k w) (h2 : Okd b k w) (h3 : Okd c k w) : Okd (.tup [a, b, c]) (k + 1) (3 * (w + 2) + 3) := okd_tup (fun d hd => by
  simp only [List.mem_cons, List.not_mem_nil, or_false] at hd
  rcases hd with rfl | rfl | rfl
  · exact h1
  · exact h2
  · exact h3) (Nat.le_refl 3)
theorem tm_okd {B : Nat} (hB : B ≤ 10 ^ 150) : ∀ (t : Tm) (k : Nat), t.dep ≤ k → Bd B t → Okd t.d (2 * k + 2) (tW k)
  | .c n, k, _, h => (two_okd (w := 151) (k := 0) (okd_non.mono (Nat.le_refl _) (by decide)) (okd_big (Nat.lt_of_lt_of_le h hB))).mono (by omega) (by have := tW_le k; omega)
  | .v w x n, k, _, h => by
    have hn : n.natAbs + 4 < B := h
    have h0 : ∀ b : Bool, ∀ s t : Str, (PyData.strOk s && decide ((reprText s).length ≤ 10)) = true → (PyData.strOk t && decide ((reprText t).length ≤ 10)) = true → Okd (.str (bif b then s else t)) 0 10 := fun b s t h1 h2 => by cases b <;> exact okd_str (by assumption)
    have h1 := two_okd (h0 w "own" "at" (by decide +kernel) (by decide +kernel)) (h0 x "b" "a" (by decide +kernel) (by decide +kernel))
    exact (two_okd (w := 151) (k := 1) (h1.mono (Nat.le_refl _) (by decide)) ((okd_big (i := n) (by omega)).mono (by decide) (by decide))).mono (by omega) (by have := tW_le k; omega)
  | .op w a b n, 0, hk, h => by have : max a.dep b.dep + 1 ≤ 0 := hk; omega
  | .op w a b n, k + 1, hk, h => by
    have hk : max a.dep b.dep + 1 ≤ k + 1 := hk
    have ha := tm_okd hB a k (by omega) h.1
    have hb := tm_okd hB b k (by omega) h.2.1
    have hn := h.2.2.1
    have ht := tW_le k
    have hw : Okd (.str w.s) (2 * k + 2) (tW k) := (show Okd (.str w.s) 0 10 by cases w <;> exact okd_str (by decide +kernel)).mono (by omega) (by omega)
    have h1 := three_okd hw ha hb
    exact (two_okd h1 ((okd_big (i := n) (by omega)).mono (by omega) (by omega))).mono (by omega) (by show _ ≤ 6 * tW k + 30; omega)
end Lk41

namespace Lk41
open PySem PySem.Spec PyProof.Rows L2 PL
def eB : Nat → Nat
  | 0 => 1000010
  | k + 1 => eB k * eB k + 2 * eB k + 3
def eD : Nat → Nat
  | k => k
def eC : Nat → Nat
  | 0 => 5
  | k + 1 => 2 * eC k + 7
theorem eB_le (k : Nat) : 1000010 ≤ eB k := by
  induction k with
  | zero => exact Nat.le_refl _
  | succ k ih => show _ ≤ eB k * eB k + 2 * eB k + 3; have := Nat.le_mul_self (eB k); omega
theorem eC_le (k : Nat) : 5 ≤ eC k := by
  induction k with
  | zero => exact Nat.le_refl _
  | succ k ih => show _ ≤ 2 * eC k + 7; omega
def OkT (k : Nat) (t : Tm) : Prop := Bd (eB k) t ∧ t.dep ≤ eD k
theorem wds {d : D} (hd : d ∈ [D.str "+", .str "-", .str "*", .str "<", .str "/"]) : ∃ w : Wd, d = .str w.s := by
  simp only [List.mem_cons, List.not_mem_nil, or_false] at hd
  rcases hd with rfl | rfl | rfl | rfl | rfl
  · exact ⟨.add, rfl⟩
  · exact ⟨.sub, rfl⟩
  · exact ⟨.mul, rfl⟩
  · exact ⟨.lt, rfl⟩
  · exact ⟨.div, rfl⟩
theorem drawn_leaf {y : Addr} {n : Nat} {K : D → Nat → Prop} {k : Nat} (h : n + 5 ≤ DMX) (q : ∀ t n', n' ≤ n + 5 → OkT k t → K t.d n') : True := trivial
theorem leaf_c {k : Nat} (i : Int) (h : i.natAbs ≤ 1000000) : OkT k (.c i) := ⟨by show i.natAbs < eB k; have := eB_le k; omega, Nat.zero_le _⟩
theorem leaf_v {k : Nat} (w x : Bool) (i : Int) (h : i.natAbs ≤ 10) : OkT k (.v w x i) := ⟨by show i.natAbs + 4 < eB k; have := eB_le k; omega, Nat.zero_le _⟩
theorem drawn_ok {y : Addr} : ∀ (k fuel n : Nat) (K : D → Nat → Prop), k < fuel → eB k ≤ MB → n + eC k ≤ DMX → (∀ t n', n' ≤ n + eC k → OkT k t → K t.d n') → AllG (GF__law_drawn y fuel 0 [.ref y, .int k]) n K := by
  intro k
  induction k with
  | zero =>
    intro fuel n K hf hb hn q
    have hn : n + 5 ≤ 1000000000 := hn
    have q : ∀ t n', n' ≤ n + 5 → OkT 0 t → K t.d n' := q
    obtain ⟨m, rfl⟩ : ∃ m, fuel = m + 1 := ⟨fuel - 1, by omega⟩
    refine s_fn (g := gr__law_drawn y (GF__law_drawn y m)) rfl ?_
    show AllG (gr__law_drawn y (GF__law_drawn y m) [some (.val (.ref y)), some (.val (.int 0)), none, none]) n _
    unfold gr__law_drawn
    (repeat' (first | with_reducible refine s_seq ?_ | with_reducible refine s_nx ?_ | with_reducible refine s_rt ?_ | with_reducible refine s_bk ?_ | with_reducible refine s_ct ?_ | with_reducible refine s_fnR ?_ | with_reducible refine s_fnN ?_ | with_reducible refine s_retv ?_ | with_reducible refine s_S (by with_unfolding_all rfl) ?_ | with_reducible refine s_E (by with_unfolding_all rfl) ?_ | with_reducible refine s_T (by with_unfolding_all rfl) ?_ | with_reducible refine s_A (by with_unfolding_all rfl) ?_ | with_reducible refine s_O (by with_unfolding_all rfl) ?_ | with_reducible refine s_N (by with_unfolding_all rfl) ?_ | with_reducible refine s_of (by with_unfolding_all rfl) ?_ | with_reducible refine s_cons ?_ | with_reducible refine s_tup ?_ | with_reducible refine s_lst ?_ | with_reducible refine s_op ?_ | with_reducible refine s_opV (by with_unfolding_all rfl) ?_ | with_reducible refine s_cb ?_ | with_reducible refine s_un ?_ | with_reducible refine s_b ?_ | with_reducible refine s_bl ?_ | with_reducible refine s_and ?_ | with_reducible refine s_or ?_ | with_reducible refine s_not ?_ | with_reducible refine s_if ?_ | with_reducible refine s_ifS ?_ | with_reducible refine s_ret ?_ | with_reducible refine s_drop ?_ | with_reducible refine s_asg ?_ | with_reducible refine s_newL ?_ | with_reducible refine s_newAdd ?_ | with_reducible refine s_newAddV (by with_unfolding_all rfl) ?_ | with_reducible refine s_asgN ?_ | with_reducible refine s_vnil ?_ | with_reducible refine s_vval ?_ | with_reducible refine s_vown ?_ | with_reducible refine s_par ?_ | with_reducible refine s_app ?_ | with_reducible refine s_ext ?_ | with_reducible refine s_freeze (by with_unfolding_all rfl) ?_ | with_reducible refine s_aug (by with_unfolding_all rfl) ?_ | with_reducible refine s_clr ?_ | with_reducible refine s_clrB ?_ | with_reducible refine s_for ?_ | with_reducible refine s_seqI ?_ | with_reducible refine s_rng1 ?_ | with_reducible refine s_callK ?_ | with_reducible refine s_call ?_ | with_reducible refine s_draw (by decide) (by decide) (by omega) fun i i0 i1 => ?_ | with_reducible refine s_part ?_ | with_reducible refine s_partI ?_ | with_reducible refine s_sl ?_ | with_reducible refine s_disp ?_ | with_reducible refine s_lc ?_ | with_reducible refine p_T (by first | with_unfolding_all rfl | with_unfolding_all assumption) ?_ | with_reducible refine p_F (by first | with_unfolding_all rfl | with_unfolding_all assumption) ?_ | with_reducible refine And.intro (a := List.length _ ≤ LMX) (Nat.le_of_ble_eq_true (by with_unfolding_all rfl)) ?_ | with_reducible refine And.intro (a := List.length _ = _) (by with_unfolding_all rfl) ?_ | with_reducible refine And.intro (a := List.length _ < LMX) (Nat.lt_of_lt_of_le (Nat.lt_succ_self _) (Nat.le_of_ble_eq_true (by with_unfolding_all rfl))) ?_ | with_reducible refine Exists.intro _ (And.intro (by with_unfolding_all rfl) (And.intro (by decide) ?_)) | refine s_ite (fun h => ?_) (fun h => ?_) | refine s_ixL (by omega) (by simp; omega) (fun d hd => ?_) | refine s_opV (by with_unfolding_all rfl) ?_))
    · simp only [List.mem_cons, List.not_mem_nil, or_false] at hd
      rcases hd with rfl | rfl | rfl | rfl | rfl | rfl | rfl
      all_goals exact q (.c _) _ (by omega) (leaf_c _ (by decide))
    · rename_i d1 hd1 _ _ _ d2 hd2
      simp only [List.mem_cons, List.not_mem_nil, or_false] at hd hd1 hd2
      rcases hd1 with rfl | rfl <;> rcases hd2 with rfl | rfl <;> rcases hd with rfl | rfl | rfl | rfl
      all_goals first
        | exact q (.v false false _) _ (by omega) (leaf_v _ _ _ (by decide))
        | exact q (.v false true _) _ (by omega) (leaf_v _ _ _ (by decide))
        | exact q (.v true false _) _ (by omega) (leaf_v _ _ _ (by decide))
        | exact q (.v true true _) _ (by omega) (leaf_v _ _ _ (by decide))
  | succ k ih =>
    intro fuel n K hf hb hn q
    have hc := eC_le k
    have he := eB_le k
    have hn : n + (2 * eC k + 7) ≤ 1000000000 := hn
    have q : ∀ t n', n' ≤ n + (2 * eC k + 7) → OkT (k + 1) t → K t.d n' := q
    obtain ⟨m, rfl⟩ : ∃ m, fuel = m + 1 := ⟨fuel - 1, by omega⟩
    have hbk : eB k ≤ MB := Nat.le_trans (by show eB k ≤ eB k * eB k + 2 * eB k + 3; omega) hb
    have hz : eqD (.int ((k + 1 : Nat) : Int)) (.int 0) = false := by rw [eqD_int]; exact decide_eq_false (by omega)
    have hsub : ((k + 1 : Nat) : Int) - 1 = (k : Int) := by omega
    have hrec : ∀ {n : Nat} {K : D → Nat → Prop}, n + eC k ≤ 1000000000 → (∀ t n', n' ≤ n + eC k → OkT k t → K t.d n') → AllG (GF__law_drawn y m 0 [.ref y, .int (((k + 1 : Nat) : Int) - 1)]) n K := fun {n K} h1 h2 => by
      rw [hsub]; exact ih m n K (by omega) hbk h1 h2
    refine s_fn (g := gr__law_drawn y (GF__law_drawn y m)) rfl ?_
    show AllG (gr__law_drawn y (GF__law_drawn y m) [some (.val (.ref y)), some (.val (.int ((k + 1 : Nat) : Int))), none, none]) n _
    unfold gr__law_drawn
    (repeat' (first | with_reducible refine s_seq ?_ | with_reducible refine s_nx ?_ | with_reducible refine s_rt ?_ | with_reducible refine s_bk ?_ | with_reducible refine s_ct ?_ | with_reducible refine s_fnR ?_ | with_reducible refine s_fnN ?_ | with_reducible refine s_retv ?_ | with_reducible refine s_S (by with_unfolding_all rfl) ?_ | with_reducible refine s_E (by with_unfolding_all rfl) ?_ | with_reducible refine s_T (by with_unfolding_all rfl) ?_ | with_reducible refine s_A (by with_unfolding_all rfl) ?_ | with_reducible refine s_O (by with_unfolding_all rfl) ?_ | with_reducible refine s_N (by with_unfolding_all rfl) ?_ | with_reducible refine s_of (by with_unfolding_all rfl) ?_ | with_reducible refine s_cons ?_ | with_reducible refine s_tup ?_ | with_reducible refine s_lst ?_ | with_reducible refine s_op ?_ | with_reducible refine s_opV (by with_unfolding_all rfl) ?_ | with_reducible refine s_cb ?_ | with_reducible refine s_un ?_ | with_reducible refine s_b ?_ | with_reducible refine s_bl ?_ | with_reducible refine s_and ?_ | with_reducible refine s_or ?_ | with_reducible refine s_not ?_ | with_reducible refine s_if ?_ | with_reducible refine s_ifS ?_ | with_reducible refine s_ret ?_ | with_reducible refine s_drop ?_ | with_reducible refine s_asg ?_ | with_reducible refine s_newL ?_ | with_reducible refine s_newAdd ?_ | with_reducible refine s_newAddV (by with_unfolding_all rfl) ?_ | with_reducible refine s_asgN ?_ | with_reducible refine s_vnil ?_ | with_reducible refine s_vval ?_ | with_reducible refine s_vown ?_ | with_reducible refine s_par ?_ | with_reducible refine s_app ?_ | with_reducible refine s_ext ?_ | with_reducible refine s_freeze (by with_unfolding_all rfl) ?_ | with_reducible refine s_aug (by with_unfolding_all rfl) ?_ | with_reducible refine s_clr ?_ | with_reducible refine s_clrB ?_ | with_reducible refine s_for ?_ | with_reducible refine s_seqI ?_ | with_reducible refine s_rng1 ?_ | with_reducible refine s_callK ?_ | with_reducible refine s_call ?_ | with_reducible refine s_draw (by decide) (by decide) (by omega) fun i i0 i1 => ?_ | with_reducible refine s_part ?_ | with_reducible refine s_partI ?_ | with_reducible refine s_sl ?_ | with_reducible refine s_disp ?_ | with_reducible refine s_lc ?_ | with_reducible refine p_T (by first | with_unfolding_all rfl | with_unfolding_all assumption) ?_ | with_reducible refine p_F (by first | with_unfolding_all rfl | with_unfolding_all assumption) ?_ | with_reducible refine And.intro (a := List.length _ ≤ LMX) (Nat.le_of_ble_eq_true (by with_unfolding_all rfl)) ?_ | with_reducible refine And.intro (a := List.length _ = _) (by with_unfolding_all rfl) ?_ | with_reducible refine And.intro (a := List.length _ < LMX) (Nat.lt_of_lt_of_le (Nat.lt_succ_self _) (Nat.le_of_ble_eq_true (by with_unfolding_all rfl))) ?_ | with_reducible refine Exists.intro _ (And.intro (by with_unfolding_all rfl) (And.intro (by decide) ?_)) | refine hrec (by omega) (fun t n' hl ht => ?_) | refine s_ite (fun h => ?_) (fun h => ?_) | refine s_ixL (by omega) (by simp; omega) (fun d hd => ?_) | refine s_opV (by with_unfolding_all rfl) ?_))
    · simp only [List.mem_cons, List.not_mem_nil, or_false] at hd
      rcases hd with rfl | rfl | rfl | rfl | rfl | rfl | rfl
      all_goals exact q (.c _) _ (by omega) (leaf_c _ (by decide))
    · rename_i d1 hd1 _ _ _ d2 hd2
      simp only [List.mem_cons, List.not_mem_nil, or_false] at hd hd1 hd2
      rcases hd1 with rfl | rfl <;> rcases hd2 with rfl | rfl <;> rcases hd with rfl | rfl | rfl | rfl
      all_goals first
        | exact q (.v false false _) _ (by omega) (leaf_v _ _ _ (by decide))
        | exact q (.v false true _) _ (by omega) (leaf_v _ _ _ (by decide))
        | exact q (.v true false _) _ (by omega) (leaf_v _ _ _ (by decide))
        | exact q (.v true true _) _ (by omega) (leaf_v _ _ _ (by decide))
    · rename_i t1 n1 hl1 ht1
      obtain ⟨w, rfl⟩ := wds hd
      refine s_of (lawmade_ok w t1 t (Nat.lt_of_lt_of_le ht1.1.n hbk) (Nat.lt_of_lt_of_le ht.1.n hbk)) ?_
      refine q _ _ (by omega) ⟨made_bd w ht1.1 ht.1, Nat.le_trans (made_dep w t1 t) ?_⟩
      have h1 : t1.dep ≤ k := ht1.2
      have h2 : t.dep ≤ k := ht.2
      show _ ≤ k + 1
      omega
end Lk41

namespace Lk41
open PySem PySem.Spec PyProof.Rows L2 PL
abbrev W5 : List D := [.str "+", .str "-", .str "*", .str "<", .str "/"]
theorem hB3 : eB 3 ≤ MB := by decide +kernel
theorem hB2 : eB 2 ≤ MB := by decide +kernel
theorem hB4 : eB 3 * eB 3 + 2 * eB 3 + 3 ≤ MB := by decide +kernel
theorem hB5 : eB 3 * eB 3 + 2 * eB 3 + 3 ≤ 10 ^ 150 := by decide +kernel
theorem hB6 : eB 3 ≤ 10 ^ 150 := by decide +kernel
theorem hB23 : eB 2 ≤ eB 3 := by decide +kernel
theorem drawn3 {y : Addr} {n : Nat} {K : D → Nat → Prop} (hn : n + 89 ≤ 1000000000) (q : ∀ t n', n' ≤ n + 89 → OkT 3 t → K t.d n') : AllG (gn__law_drawn y [.ref y, .int 3]) n K := drawn_ok 3 6 n K (by decide) hB3 hn q
theorem drawn2 {y : Addr} {n : Nat} {K : D → Nat → Prop} (hn : n + 41 ≤ 1000000000) (q : ∀ t n', n' ≤ n + 41 → OkT 2 t → K t.d n') : AllG (gn__law_drawn y [.ref y, .int 2]) n K := drawn_ok 2 6 n K (by decide) hB2 hn q
theorem law_all (y : Addr) (sc : D) : AllG (gr_law y [some (.val sc), some (.val (.ref y)), none, none, none, none, none, none, none, none]) 0 (fun w _ => w = .rt (.bl true)) := by
  unfold gr_law
  (repeat' (first | with_reducible refine s_seq ?_ | with_reducible refine s_nx ?_ | with_reducible refine s_rt ?_ | with_reducible refine s_bk ?_ | with_reducible refine s_ct ?_ | with_reducible refine s_fnR ?_ | with_reducible refine s_fnN ?_ | with_reducible refine s_retv ?_ | with_reducible refine s_S (by with_unfolding_all rfl) ?_ | with_reducible refine s_E (by with_unfolding_all rfl) ?_ | with_reducible refine s_T (by with_unfolding_all rfl) ?_ | with_reducible refine s_A (by with_unfolding_all rfl) ?_ | with_reducible refine s_O (by with_unfolding_all rfl) ?_ | with_reducible refine s_N (by with_unfolding_all rfl) ?_ | with_reducible refine s_of (by with_unfolding_all rfl) ?_ | with_reducible refine s_cons ?_ | with_reducible refine s_tup ?_ | with_reducible refine s_lst ?_ | with_reducible refine s_op ?_ | with_reducible refine s_opV (by with_unfolding_all rfl) ?_ | with_reducible refine s_cb ?_ | with_reducible refine s_un ?_ | with_reducible refine s_b ?_ | with_reducible refine s_bl ?_ | with_reducible refine s_and ?_ | with_reducible refine s_or ?_ | with_reducible refine s_not ?_ | with_reducible refine s_if ?_ | with_reducible refine s_ifS ?_ | with_reducible refine s_ret ?_ | with_reducible refine s_drop ?_ | with_reducible refine s_asg ?_ | with_reducible refine s_newL ?_ | with_reducible refine s_newAdd ?_ | with_reducible refine s_newAddV (by with_unfolding_all rfl) ?_ | with_reducible refine s_asgN ?_ | with_reducible refine s_vnil ?_ | with_reducible refine s_vval ?_ | with_reducible refine s_vown ?_ | with_reducible refine s_par ?_ | with_reducible refine s_app ?_ | with_reducible refine s_ext ?_ | with_reducible refine s_freeze (by with_unfolding_all rfl) ?_ | with_reducible refine s_aug (by with_unfolding_all rfl) ?_ | with_reducible refine s_clr ?_ | with_reducible refine s_clrB ?_ | with_reducible refine s_for ?_ | with_reducible refine s_seqI ?_ | with_reducible refine s_rng1 ?_ | with_reducible refine s_callK ?_ | with_reducible refine s_call ?_ | with_reducible refine s_draw (by decide) (by decide) (by omega) fun i i0 i1 => ?_ | with_reducible refine s_part ?_ | with_reducible refine s_partI ?_ | with_reducible refine s_sl ?_ | with_reducible refine s_disp ?_ | with_reducible refine s_lc ?_ | with_reducible refine p_T (by first | with_unfolding_all rfl | with_unfolding_all assumption) ?_ | with_reducible refine p_F (by first | with_unfolding_all rfl | with_unfolding_all assumption) ?_ | with_reducible refine And.intro (a := List.length _ ≤ LMX) (Nat.le_of_ble_eq_true (by with_unfolding_all rfl)) ?_ | with_reducible refine And.intro (a := List.length _ = _) (by with_unfolding_all rfl) ?_ | with_reducible refine And.intro (a := List.length _ < LMX) (Nat.lt_of_lt_of_le (Nat.lt_succ_self _) (Nat.le_of_ble_eq_true (by with_unfolding_all rfl))) ?_ | with_reducible refine Exists.intro _ (And.intro (by with_unfolding_all rfl) (And.intro (by decide) ?_))))
  refine (spec_for (c := 1000) (fun d hd => ⟨_, rfl, spec_of fun n Q hn q => ?_⟩)).run (by decide) (fun w n' l e => ?_)
  rotate_left
  · subst e
    (repeat' (first | with_reducible refine s_seq ?_ | with_reducible refine s_nx ?_ | with_reducible refine s_rt ?_ | with_reducible refine s_bk ?_ | with_reducible refine s_ct ?_ | with_reducible refine s_fnR ?_ | with_reducible refine s_fnN ?_ | with_reducible refine s_retv ?_ | with_reducible refine s_S (by with_unfolding_all rfl) ?_ | with_reducible refine s_E (by with_unfolding_all rfl) ?_ | with_reducible refine s_T (by with_unfolding_all rfl) ?_ | with_reducible refine s_A (by with_unfolding_all rfl) ?_ | with_reducible refine s_O (by with_unfolding_all rfl) ?_ | with_reducible refine s_N (by with_unfolding_all rfl) ?_ | with_reducible refine s_of (by with_unfolding_all rfl) ?_ | with_reducible refine s_cons ?_ | with_reducible refine s_tup ?_ | with_reducible refine s_lst ?_ | with_reducible refine s_op ?_ | with_reducible refine s_opV (by with_unfolding_all rfl) ?_ | with_reducible refine s_cb ?_ | with_reducible refine s_un ?_ | with_reducible refine s_b ?_ | with_reducible refine s_bl ?_ | with_reducible refine s_and ?_ | with_reducible refine s_or ?_ | with_reducible refine s_not ?_ | with_reducible refine s_if ?_ | with_reducible refine s_ifS ?_ | with_reducible refine s_ret ?_ | with_reducible refine s_drop ?_ | with_reducible refine s_asg ?_ | with_reducible refine s_newL ?_ | with_reducible refine s_newAdd ?_ | with_reducible refine s_newAddV (by with_unfolding_all rfl) ?_ | with_reducible refine s_asgN ?_ | with_reducible refine s_vnil ?_ | with_reducible refine s_vval ?_ | with_reducible refine s_vown ?_ | with_reducible refine s_par ?_ | with_reducible refine s_app ?_ | with_reducible refine s_ext ?_ | with_reducible refine s_freeze (by with_unfolding_all rfl) ?_ | with_reducible refine s_aug (by with_unfolding_all rfl) ?_ | with_reducible refine s_clr ?_ | with_reducible refine s_clrB ?_ | with_reducible refine s_for ?_ | with_reducible refine s_seqI ?_ | with_reducible refine s_rng1 ?_ | with_reducible refine s_callK ?_ | with_reducible refine s_call ?_ | with_reducible refine s_draw (by decide) (by decide) (by omega) fun i i0 i1 => ?_ | with_reducible refine s_part ?_ | with_reducible refine s_partI ?_ | with_reducible refine s_sl ?_ | with_reducible refine s_disp ?_ | with_reducible refine s_lc ?_ | with_reducible refine p_T (by first | with_unfolding_all rfl | with_unfolding_all assumption) ?_ | with_reducible refine p_F (by first | with_unfolding_all rfl | with_unfolding_all assumption) ?_ | with_reducible refine And.intro (a := List.length _ ≤ LMX) (Nat.le_of_ble_eq_true (by with_unfolding_all rfl)) ?_ | with_reducible refine And.intro (a := List.length _ = _) (by with_unfolding_all rfl) ?_ | with_reducible refine And.intro (a := List.length _ < LMX) (Nat.lt_of_lt_of_le (Nat.lt_succ_self _) (Nat.le_of_ble_eq_true (by with_unfolding_all rfl))) ?_ | with_reducible refine Exists.intro _ (And.intro (by with_unfolding_all rfl) (And.intro (by decide) ?_))))
    rfl
  · have hn : n + 1000 ≤ 1000000000 := hn
    (repeat' (first | with_reducible refine s_seq ?_ | with_reducible refine s_nx ?_ | with_reducible refine s_rt ?_ | with_reducible refine s_bk ?_ | with_reducible refine s_ct ?_ | with_reducible refine s_fnR ?_ | with_reducible refine s_fnN ?_ | with_reducible refine s_retv ?_ | with_reducible refine s_S (by with_unfolding_all rfl) ?_ | with_reducible refine s_E (by with_unfolding_all rfl) ?_ | with_reducible refine s_T (by with_unfolding_all rfl) ?_ | with_reducible refine s_A (by with_unfolding_all rfl) ?_ | with_reducible refine s_O (by with_unfolding_all rfl) ?_ | with_reducible refine s_N (by with_unfolding_all rfl) ?_ | with_reducible refine s_of (by with_unfolding_all rfl) ?_ | with_reducible refine s_cons ?_ | with_reducible refine s_tup ?_ | with_reducible refine s_lst ?_ | with_reducible refine s_op ?_ | with_reducible refine s_opV (by with_unfolding_all rfl) ?_ | with_reducible refine s_cb ?_ | with_reducible refine s_un ?_ | with_reducible refine s_b ?_ | with_reducible refine s_bl ?_ | with_reducible refine s_and ?_ | with_reducible refine s_or ?_ | with_reducible refine s_not ?_ | with_reducible refine s_if ?_ | with_reducible refine s_ifS ?_ | with_reducible refine s_ret ?_ | with_reducible refine s_drop ?_ | with_reducible refine s_asg ?_ | with_reducible refine s_newL ?_ | with_reducible refine s_newAdd ?_ | with_reducible refine s_newAddV (by with_unfolding_all rfl) ?_ | with_reducible refine s_asgN ?_ | with_reducible refine s_vnil ?_ | with_reducible refine s_vval ?_ | with_reducible refine s_vown ?_ | with_reducible refine s_par ?_ | with_reducible refine s_app ?_ | with_reducible refine s_ext ?_ | with_reducible refine s_freeze (by with_unfolding_all rfl) ?_ | with_reducible refine s_aug (by with_unfolding_all rfl) ?_ | with_reducible refine s_clr ?_ | with_reducible refine s_clrB ?_ | with_reducible refine s_for ?_ | with_reducible refine s_seqI ?_ | with_reducible refine s_rng1 ?_ | with_reducible refine s_callK ?_ | with_reducible refine s_call ?_ | with_reducible refine s_draw (by decide) (by decide) (by omega) fun i i0 i1 => ?_ | with_reducible refine s_part ?_ | with_reducible refine s_partI ?_ | with_reducible refine s_sl ?_ | with_reducible refine s_disp ?_ | with_reducible refine s_lc ?_ | with_reducible refine p_T (by first | with_unfolding_all rfl | with_unfolding_all assumption) ?_ | with_reducible refine p_F (by first | with_unfolding_all rfl | with_unfolding_all assumption) ?_ | with_reducible refine And.intro (a := List.length _ ≤ LMX) (Nat.le_of_ble_eq_true (by with_unfolding_all rfl)) ?_ | with_reducible refine And.intro (a := List.length _ = _) (by with_unfolding_all rfl) ?_ | with_reducible refine And.intro (a := List.length _ < LMX) (Nat.lt_of_lt_of_le (Nat.lt_succ_self _) (Nat.le_of_ble_eq_true (by with_unfolding_all rfl))) ?_ | with_reducible refine Exists.intro _ (And.intro (by with_unfolding_all rfl) (And.intro (by decide) ?_)) | with_reducible refine drawn3 (by omega) (fun t n' hl ht => ?_) | with_reducible refine drawn2 (by omega) (fun t n' hl ht => ?_)))
    rename_i t1 n1 hl1 ht1
    revert t n' hl ht
    intro t2 n2 hl2 ht2
    have b1 : Bd (eB 3) t1 := ht1.1
    have b2 : Bd (eB 3) t2 := ht2.1.mono hB23
    have k1 := tm_okd hB6 t1 3 ht1.2 b1
    have k2 := tm_okd hB6 t2 3 (Nat.le_trans ht2.2 (by decide)) b2
    have k12 := two_okd k1 k2
    have hs := reprF_ok (Okd.reprB k12 (by decide) (by decide))
    have hsh := k12.shok
    generalize (pyd (.tup [t1.d, t2.d])).shown = sh at hs hsh
    refine s_S (w := .nx [none, some (.val (.ref y)), some (.val d), some (.val t1.d), some (.val t2.d), some (.val (.str sh)), none, none, none, none]) ?_ ?_
    · (repeat' (first | exact hs | (with_unfolding_all rfl) | apply e_fn (by with_unfolding_all rfl) | apply e_B | (apply e_if1; · first | with_unfolding_all rfl | with_unfolding_all assumption | (simp only [*, if_false, if_true, Bool.false_eq_true, Bool.not_false, Bool.not_true] <;> fail)) | (apply e_if0; · first | with_unfolding_all rfl | with_unfolding_all assumption | (simp only [*, if_false, if_true, Bool.false_eq_true, Bool.not_false, Bool.not_true] <;> fail)) | (apply e_lm; · decide) | apply e_part | apply e_map | apply e_bind))
    · (repeat' (first | with_reducible refine s_seq ?_ | with_reducible refine s_nx ?_ | with_reducible refine s_rt ?_ | with_reducible refine s_bk ?_ | with_reducible refine s_ct ?_ | with_reducible refine s_fnR ?_ | with_reducible refine s_fnN ?_ | with_reducible refine s_retv ?_ | with_reducible refine s_S (by with_unfolding_all rfl) ?_ | with_reducible refine s_E (by with_unfolding_all rfl) ?_ | with_reducible refine s_T (by with_unfolding_all rfl) ?_ | with_reducible refine s_A (by with_unfolding_all rfl) ?_ | with_reducible refine s_O (by with_unfolding_all rfl) ?_ | with_reducible refine s_N (by with_unfolding_all rfl) ?_ | with_reducible refine s_of (by with_unfolding_all rfl) ?_ | with_reducible refine s_cons ?_ | with_reducible refine s_tup ?_ | with_reducible refine s_lst ?_ | with_reducible refine s_op ?_ | with_reducible refine s_opV (by with_unfolding_all rfl) ?_ | with_reducible refine s_cb ?_ | with_reducible refine s_un ?_ | with_reducible refine s_b ?_ | with_reducible refine s_bl ?_ | with_reducible refine s_and ?_ | with_reducible refine s_or ?_ | with_reducible refine s_not ?_ | with_reducible refine s_if ?_ | with_reducible refine s_ifS ?_ | with_reducible refine s_ret ?_ | with_reducible refine s_drop ?_ | with_reducible refine s_asg ?_ | with_reducible refine s_newL ?_ | with_reducible refine s_newAdd ?_ | with_reducible refine s_newAddV (by with_unfolding_all rfl) ?_ | with_reducible refine s_asgN ?_ | with_reducible refine s_vnil ?_ | with_reducible refine s_vval ?_ | with_reducible refine s_vown ?_ | with_reducible refine s_par ?_ | with_reducible refine s_app ?_ | with_reducible refine s_ext ?_ | with_reducible refine s_freeze (by with_unfolding_all rfl) ?_ | with_reducible refine s_aug (by with_unfolding_all rfl) ?_ | with_reducible refine s_clr ?_ | with_reducible refine s_clrB ?_ | with_reducible refine s_for ?_ | with_reducible refine s_seqI ?_ | with_reducible refine s_rng1 ?_ | with_reducible refine s_callK ?_ | with_reducible refine s_call ?_ | with_reducible refine s_draw (by decide) (by decide) (by omega) fun i i0 i1 => ?_ | with_reducible refine s_part ?_ | with_reducible refine s_partI ?_ | with_reducible refine s_sl ?_ | with_reducible refine s_disp ?_ | with_reducible refine s_lc ?_ | with_reducible refine p_T (by first | with_unfolding_all rfl | with_unfolding_all assumption) ?_ | with_reducible refine p_F (by first | with_unfolding_all rfl | with_unfolding_all assumption) ?_ | with_reducible refine And.intro (a := List.length _ ≤ LMX) (Nat.le_of_ble_eq_true (by with_unfolding_all rfl)) ?_ | with_reducible refine And.intro (a := List.length _ = _) (by with_unfolding_all rfl) ?_ | with_reducible refine And.intro (a := List.length _ < LMX) (Nat.lt_of_lt_of_le (Nat.lt_succ_self _) (Nat.le_of_ble_eq_true (by with_unfolding_all rfl))) ?_ | with_reducible refine Exists.intro _ (And.intro (by with_unfolding_all rfl) (And.intro (by decide) ?_))))
      refine (spec_for (c := 2) (fun d2 hd2 => ⟨_, rfl, spec_of fun n Q hn q => ?_⟩)).run (show n2 + 5 * 2 ≤ 1000000000 by omega) (fun w n' l e => ?_)
      rotate_left
      · subst e
        exact q _ _ (by have : n' ≤ n2 + 5 * 2 := l; omega) rfl
      · have hn : n + 2 ≤ 1000000000 := hn
        obtain ⟨w, rfl⟩ := wds hd2
        have m1 := made_ok w t1 t2 (Nat.lt_of_lt_of_le b1.n hB3) (Nat.lt_of_lt_of_le b2.n hB3)
        have m2 := lawmade_ok w t1 t2 (Nat.lt_of_lt_of_le b1.n hB3) (Nat.lt_of_lt_of_le b2.n hB3)
        have b3 := made_bd w b1 b2
        have d3 : (made w t1 t2).dep ≤ 4 := Nat.le_trans (made_dep w t1 t2) (by have : t1.dep ≤ 3 := ht1.2; have : t2.dep ≤ 2 := ht2.2; omega)
        have k3 := tm_okd hB5 _ 4 d3 b3
        have hs3 := reprF_ok (Okd.reprB k3 (by decide) (by decide))
        have hsh3 := k3.shok
        generalize (pyd (made w t1 t2).d).shown = sh3 at hs3 hsh3
        have e3 : eqF true (.str sh3) (.str sh3) = some (.bl false) := by
          show (if _ then _ else _) = _
          rw [if_pos ⟨hsh3, hsh3⟩, eqD_str, beq_self_eq_true]; rfl
        have e4 : eqF true (.str sh) (.str sh) = some (.bl false) := by
          show (if _ then _ else _) = _
          rw [if_pos ⟨hsh, hsh⟩, eqD_str, beq_self_eq_true]; rfl
        refine s_clrB (s_seq (s_S (w := .nx [none, some (.val (.ref y)), none, some (.val t1.d), some (.val t2.d), some (.val (.str sh)), some (.val (.str w.s)), some (.val (made w t1 t2).d), none, none]) (by (repeat' (first | exact m1 | (with_unfolding_all rfl) | apply e_fn (by with_unfolding_all rfl) | apply e_B | (apply e_if1; · first | with_unfolding_all rfl | with_unfolding_all assumption | (simp only [*, if_false, if_true, Bool.false_eq_true, Bool.not_false, Bool.not_true] <;> fail)) | (apply e_if0; · first | with_unfolding_all rfl | with_unfolding_all assumption | (simp only [*, if_false, if_true, Bool.false_eq_true, Bool.not_false, Bool.not_true] <;> fail)) | (apply e_lm; · decide) | apply e_part | apply e_map | apply e_bind))) (s_nx (s_seq (s_S (w := .nx [none, some (.val (.ref y)), none, some (.val t1.d), some (.val t2.d), some (.val (.str sh)), some (.val (.str w.s)), some (.val (made w t1 t2).d), none, none]) (by (repeat' (first | exact hs3 | exact m2 | exact e3 | (with_unfolding_all rfl) | apply e_fn (by with_unfolding_all rfl) | apply e_B | (apply e_if1; · first | with_unfolding_all rfl | with_unfolding_all assumption | (simp only [*, if_false, if_true, Bool.false_eq_true, Bool.not_false, Bool.not_true] <;> fail)) | (apply e_if0; · first | with_unfolding_all rfl | with_unfolding_all assumption | (simp only [*, if_false, if_true, Bool.false_eq_true, Bool.not_false, Bool.not_true] <;> fail)) | (apply e_lm; · decide) | apply e_part | apply e_map | apply e_bind))) (s_nx ?_))))))
        (repeat' (first | with_reducible refine s_seq ?_ | with_reducible refine s_nx ?_ | with_reducible refine s_rt ?_ | with_reducible refine s_bk ?_ | with_reducible refine s_ct ?_ | with_reducible refine s_fnR ?_ | with_reducible refine s_fnN ?_ | with_reducible refine s_retv ?_ | with_reducible refine s_S (by with_unfolding_all rfl) ?_ | with_reducible refine s_E (by with_unfolding_all rfl) ?_ | with_reducible refine s_T (by with_unfolding_all rfl) ?_ | with_reducible refine s_A (by with_unfolding_all rfl) ?_ | with_reducible refine s_O (by with_unfolding_all rfl) ?_ | with_reducible refine s_N (by with_unfolding_all rfl) ?_ | with_reducible refine s_of (by with_unfolding_all rfl) ?_ | with_reducible refine s_cons ?_ | with_reducible refine s_tup ?_ | with_reducible refine s_lst ?_ | with_reducible refine s_op ?_ | with_reducible refine s_opV (by with_unfolding_all rfl) ?_ | with_reducible refine s_cb ?_ | with_reducible refine s_un ?_ | with_reducible refine s_b ?_ | with_reducible refine s_bl ?_ | with_reducible refine s_and ?_ | with_reducible refine s_or ?_ | with_reducible refine s_not ?_ | with_reducible refine s_if ?_ | with_reducible refine s_ifS ?_ | with_reducible refine s_ret ?_ | with_reducible refine s_drop ?_ | with_reducible refine s_asg ?_ | with_reducible refine s_newL ?_ | with_reducible refine s_newAdd ?_ | with_reducible refine s_newAddV (by with_unfolding_all rfl) ?_ | with_reducible refine s_asgN ?_ | with_reducible refine s_vnil ?_ | with_reducible refine s_vval ?_ | with_reducible refine s_vown ?_ | with_reducible refine s_par ?_ | with_reducible refine s_app ?_ | with_reducible refine s_ext ?_ | with_reducible refine s_freeze (by with_unfolding_all rfl) ?_ | with_reducible refine s_aug (by with_unfolding_all rfl) ?_ | with_reducible refine s_clr ?_ | with_reducible refine s_clrB ?_ | with_reducible refine s_for ?_ | with_reducible refine s_seqI ?_ | with_reducible refine s_rng1 ?_ | with_reducible refine s_callK ?_ | with_reducible refine s_call ?_ | with_reducible refine s_draw (by decide) (by decide) (by omega) fun i i0 i1 => ?_ | with_reducible refine s_part ?_ | with_reducible refine s_partI ?_ | with_reducible refine s_sl ?_ | with_reducible refine s_disp ?_ | with_reducible refine s_lc ?_ | with_reducible refine p_T (by first | with_unfolding_all rfl | with_unfolding_all assumption) ?_ | with_reducible refine p_F (by first | with_unfolding_all rfl | with_unfolding_all assumption) ?_ | with_reducible refine And.intro (a := List.length _ ≤ LMX) (Nat.le_of_ble_eq_true (by with_unfolding_all rfl)) ?_ | with_reducible refine And.intro (a := List.length _ = _) (by with_unfolding_all rfl) ?_ | with_reducible refine And.intro (a := List.length _ < LMX) (Nat.lt_of_lt_of_le (Nat.lt_succ_self _) (Nat.le_of_ble_eq_true (by with_unfolding_all rfl))) ?_ | with_reducible refine Exists.intro _ (And.intro (by with_unfolding_all rfl) (And.intro (by decide) ?_))))
        rename_i ia a0 a1
        have hva : (ia - 4).natAbs ≤ 4 := by omega
        have hvb : (i - 1).natAbs ≤ 4 := by omega
        have w1 := worth_ok hB3 hva hvb t1 12 (by have : t1.dep ≤ 3 := ht1.2; omega) b1
        have w2 := worth_ok hB3 hva hvb t2 12 (by have : t2.dep ≤ 2 := ht2.2; omega) b2
        have w3 := worth_ok hB4 hva hvb (made w t1 t2) 12 (by omega) b3
        have s1 := sum_ok w (Nat.lt_of_lt_of_le (b1.w hva hvb) hB3) (Nat.lt_of_lt_of_le (b2.w hva hvb) hB3)
        rw [made_w] at w3
        generalize t1.w (ia - 4) (i - 1) = v1 at w1 s1 w3
        generalize t2.w (ia - 4) (i - 1) = v2 at w2 s1 w3
        generalize sm w v1 v2 = v3 at s1 w3
        have e5 : eqF true (.int v3) (.int v3) = some (.bl false) := eqF_int (by simp)
        refine s_S (w := .nx [none, some (.val (.ref y)), none, some (.val t1.d), some (.val t2.d), some (.val (.str sh)), some (.val (.str w.s)), some (.val (made w t1 t2).d), some (.val (stD (ia - 4) (i - 1))), some (.val (.int v3))]) (by (repeat' (first | exact w1 | exact w2 | exact s1 | (with_unfolding_all rfl) | apply e_fn (by with_unfolding_all rfl) | apply e_B | (apply e_if1; · first | with_unfolding_all rfl | with_unfolding_all assumption | (simp only [*, if_false, if_true, Bool.false_eq_true, Bool.not_false, Bool.not_true] <;> fail)) | (apply e_if0; · first | with_unfolding_all rfl | with_unfolding_all assumption | (simp only [*, if_false, if_true, Bool.false_eq_true, Bool.not_false, Bool.not_true] <;> fail)) | (apply e_lm; · decide) | apply e_part | apply e_map | apply e_bind))) ?_
        refine s_nx (s_S (w := .nx [none, some (.val (.ref y)), none, some (.val t1.d), some (.val t2.d), some (.val (.str sh)), some (.val (.str w.s)), some (.val (made w t1 t2).d), some (.val (stD (ia - 4) (i - 1))), some (.val (.int v3))]) (by (repeat' (first | exact w3 | exact e5 | exact hs | exact e4 | (with_unfolding_all rfl) | apply e_fn (by with_unfolding_all rfl) | apply e_B | (apply e_if1; · first | with_unfolding_all rfl | with_unfolding_all assumption | (simp only [*, if_false, if_true, Bool.false_eq_true, Bool.not_false, Bool.not_true] <;> fail)) | (apply e_if0; · first | with_unfolding_all rfl | with_unfolding_all assumption | (simp only [*, if_false, if_true, Bool.false_eq_true, Bool.not_false, Bool.not_true] <;> fail)) | (apply e_lm; · decide) | apply e_part | apply e_map | apply e_bind))) ?_)
        exact q _ _ (by omega) rfl
end Lk41

namespace Lk41
open PySem PySem.Spec PyProof.Rows L2 PL
theorem feed_ok {ns : List Int} (hns : ns.length ≤ 63) {S : Sto} {Q : QD} (q : ∀ y S', (feed3 ns y).ok 0 S' → Q (.ref y) S') : d__law_feed [.scr (ns.map D.int)] S Q := by
  refine mkSp_of rfl ?_
  show r__law_feed ⟨_, _, _, _⟩ [some (.scr (ns.map D.int))] S
  unfold r__law_feed
  (repeat' (first | with_reducible refine p_seq ?_ | with_reducible refine p_next ?_ | with_reducible refine p_var (by with_unfolding_all rfl) ?_ | with_reducible refine p_c ?_ | with_reducible refine p_op ?_ | with_reducible refine p_cb ?_ | with_reducible refine p_call ?_ | with_reducible refine p_cons ?_ | with_reducible refine p_nil ?_ | with_reducible refine p_tup ?_ | with_reducible refine p_lst ?_ | with_reducible refine p_b ?_ | with_reducible refine p_qb ?_ | with_reducible refine p_and ?_ | with_reducible refine p_or ?_ | with_reducible refine p_not ?_ | with_reducible refine p_andV ?_ | with_reducible refine p_orV ?_ | with_reducible refine p_notV ?_ | with_reducible refine p_if ?_ | with_reducible refine p_ifS ?_ | with_reducible refine p_un ?_ | with_reducible refine p_neg ?_ | with_reducible refine p_ret ?_ | with_reducible refine p_retN ?_ | with_reducible refine p_drop ?_ | with_reducible refine p_asg' ?_ | with_reducible refine p_par ?_ | with_reducible refine p_setI ?_ | with_reducible refine p_sl ?_ | with_reducible refine p_noPart ?_ | with_reducible refine p_part ?_ | with_reducible refine p_partI ?_ | with_reducible refine p_kin ?_ | with_reducible refine p_kget ?_ | with_reducible refine p_lm ?_ | with_reducible refine p_for ?_ | with_reducible refine p_seqI ?_ | with_reducible refine p_seqL ?_ | with_reducible refine p_seqT ?_ | with_reducible refine p_rng1 ?_ | with_reducible refine p_rng1I (by unfold rng1; first | decide | (constructor <;> omega)) ?_ | with_reducible refine p_yes ?_ | with_reducible refine p_chain ?_ | with_reducible refine p_callK ?_ | with_reducible refine p_lc ?_ | with_reducible refine p_disp fun _ hp0 => ?_ | with_reducible refine p_get2 ?_ | with_reducible refine p_bindM (by with_unfolding_all rfl) ?_ | with_reducible refine p_mulI (by first | decide | omega) (by first | decide | omega) ?_ | with_reducible refine p_mod (by first | decide | omega | assumption) ?_ | with_reducible refine p_sub ?_ | with_reducible refine p_min ?_ | with_reducible refine p_max ?_ | with_reducible refine p_ix0 ?_ | with_reducible refine p_ix0L ?_ | with_reducible refine p_inT (by first | decide +kernel | exact ⟨rfl, rfl⟩ | (simp [flD]; done)) ?_ | with_reducible refine p_notInT (by first | decide +kernel | exact ⟨rfl, rfl⟩ | (simp [flD]; done)) ?_ | with_reducible refine p_fdiv (by first | assumption | decide) ?_ | with_reducible refine p_pow (by unfold CPow; decide) ?_ | with_reducible refine p_lt ?_ | with_reducible refine p_le ?_ | with_reducible refine p_gt ?_ | with_reducible refine p_ge ?_ | with_reducible refine p_eqI ?_ | with_reducible refine p_neI ?_ | with_reducible refine p_eqL (by first | decide +kernel | assumption) (by first | decide +kernel | assumption) ?_ | with_reducible refine p_neL (by first | decide +kernel | assumption) (by first | decide +kernel | assumption) ?_ | with_reducible refine p_eqT (by first | decide +kernel | assumption) (by first | decide +kernel | assumption) ?_ | with_reducible refine p_neT (by first | decide +kernel | assumption) (by first | decide +kernel | assumption) ?_ | with_reducible refine p_eqS (by first | decide +kernel | assumption) (by first | decide +kernel | assumption) ?_ | with_reducible refine p_neS (by first | decide +kernel | assumption) (by first | decide +kernel | assumption) ?_ | with_reducible refine p_isi (by with_unfolding_all rfl) (by decide) ?_ | with_reducible refine p_lmO (by first | assumption | exact sup_same) ?_ | with_reducible refine p_lmE (by first | assumption | exact sup_same) (by with_unfolding_all rfl) (by (first | exact True.intro | exact szl | (with_reducible assumption) | decide | (simp only [List.length_cons, List.length_nil]; first | exact szl | omega) | omega)) ?_ | with_reducible refine p_freeze (by with_unfolding_all rfl) (by first | assumption | exact sup_same) ?_ | with_reducible refine p_dispE (by assumption) (by with_unfolding_all rfl) ?_ | with_reducible refine p_getI (by with_unfolding_all rfl) ?_ | with_reducible refine p_getS (by with_unfolding_all rfl) (by with_unfolding_all rfl) (by first | with_unfolding_all rfl | with_unfolding_all assumption) ?_ | with_reducible refine p_getN (by with_unfolding_all rfl) (by with_unfolding_all rfl) (by first | with_unfolding_all rfl | with_unfolding_all assumption) ?_ | with_reducible refine p_r (by with_unfolding_all rfl) (by (first | exact True.intro | exact szl | (with_reducible assumption) | decide | (simp only [List.length_cons, List.length_nil]; first | exact szl | omega) | omega)) ?_ | with_reducible refine p_rc (by with_unfolding_all rfl) (by (first | exact True.intro | exact szl | (with_reducible assumption) | decide | (simp only [List.length_cons, List.length_nil]; first | exact szl | omega) | omega)) ?_ | with_reducible refine p_ixS (by first | assumption | exact sup_same) (by with_unfolding_all rfl) ?_ | with_reducible refine p_set (by first | assumption | exact sup_same) (by with_unfolding_all rfl) ?_ | with_reducible refine p_onE (by with_unfolding_all rfl) (by (first | exact True.intro | exact szl | (with_reducible assumption) | decide | (simp only [List.length_cons, List.length_nil]; first | exact szl | omega) | omega)) ?_ | with_reducible refine p_kgetS (by first | with_unfolding_all rfl | with_unfolding_all assumption) ?_ | with_reducible refine p_kinT (by first | with_unfolding_all rfl | with_unfolding_all assumption) ?_ | with_reducible refine p_kinF (by first | with_unfolding_all rfl | with_unfolding_all assumption) ?_ | with_reducible refine p_nkinT (by first | with_unfolding_all rfl | with_unfolding_all assumption) ?_ | with_reducible refine p_nkinF (by first | with_unfolding_all rfl | with_unfolding_all assumption) ?_ | with_reducible refine p_T (by with_unfolding_all rfl) ?_ | with_reducible refine p_F (by with_unfolding_all rfl) ?_ | with_reducible refine And.intro (a := List.length _ ≤ sizeLine) szl ?_ | with_reducible refine And.intro (a := List.length _ = _) (by with_unfolding_all rfl) ?_ | refine p_lstR ?_))
  rw [feed_cells hns]
  exact fun y hy => q y _ ⟨0, 0, sup_same, Nat.le_refl _⟩
theorem law_true (ns : List Int) (hns : ns.length ≤ 63) : d_law [.scr (ns.map D.int)] emptyS fun d _ => d = .bl true := by
  refine mkSp_of rfl ?_
  show r_law ⟨_, _, _, _⟩ [some (.scr (ns.map D.int)), none, none, none, none, none, none, none, none, none] emptyS
  unfold r_law
  (repeat' (first | with_reducible refine p_seq ?_ | with_reducible refine p_next ?_ | with_reducible refine p_var (by with_unfolding_all rfl) ?_ | with_reducible refine p_c ?_ | with_reducible refine p_op ?_ | with_reducible refine p_cb ?_ | with_reducible refine p_call ?_ | with_reducible refine p_cons ?_ | with_reducible refine p_nil ?_ | with_reducible refine p_tup ?_ | with_reducible refine p_lst ?_ | with_reducible refine p_b ?_ | with_reducible refine p_qb ?_ | with_reducible refine p_and ?_ | with_reducible refine p_or ?_ | with_reducible refine p_not ?_ | with_reducible refine p_andV ?_ | with_reducible refine p_orV ?_ | with_reducible refine p_notV ?_ | with_reducible refine p_if ?_ | with_reducible refine p_ifS ?_ | with_reducible refine p_un ?_ | with_reducible refine p_neg ?_ | with_reducible refine p_ret ?_ | with_reducible refine p_retN ?_ | with_reducible refine p_drop ?_ | with_reducible refine p_asg' ?_ | with_reducible refine p_par ?_ | with_reducible refine p_setI ?_ | with_reducible refine p_sl ?_ | with_reducible refine p_noPart ?_ | with_reducible refine p_part ?_ | with_reducible refine p_partI ?_ | with_reducible refine p_kin ?_ | with_reducible refine p_kget ?_ | with_reducible refine p_lm ?_ | with_reducible refine p_for ?_ | with_reducible refine p_seqI ?_ | with_reducible refine p_seqL ?_ | with_reducible refine p_seqT ?_ | with_reducible refine p_rng1 ?_ | with_reducible refine p_rng1I (by unfold rng1; first | decide | (constructor <;> omega)) ?_ | with_reducible refine p_yes ?_ | with_reducible refine p_chain ?_ | with_reducible refine p_callK ?_ | with_reducible refine p_lc ?_ | with_reducible refine p_disp fun _ hp0 => ?_ | with_reducible refine p_get2 ?_ | with_reducible refine p_bindM (by with_unfolding_all rfl) ?_ | with_reducible refine p_mulI (by first | decide | omega) (by first | decide | omega) ?_ | with_reducible refine p_mod (by first | decide | omega | assumption) ?_ | with_reducible refine p_sub ?_ | with_reducible refine p_min ?_ | with_reducible refine p_max ?_ | with_reducible refine p_ix0 ?_ | with_reducible refine p_ix0L ?_ | with_reducible refine p_inT (by first | decide +kernel | exact ⟨rfl, rfl⟩ | (simp [flD]; done)) ?_ | with_reducible refine p_notInT (by first | decide +kernel | exact ⟨rfl, rfl⟩ | (simp [flD]; done)) ?_ | with_reducible refine p_fdiv (by first | assumption | decide) ?_ | with_reducible refine p_pow (by unfold CPow; decide) ?_ | with_reducible refine p_lt ?_ | with_reducible refine p_le ?_ | with_reducible refine p_gt ?_ | with_reducible refine p_ge ?_ | with_reducible refine p_eqI ?_ | with_reducible refine p_neI ?_ | with_reducible refine p_eqL (by first | decide +kernel | assumption) (by first | decide +kernel | assumption) ?_ | with_reducible refine p_neL (by first | decide +kernel | assumption) (by first | decide +kernel | assumption) ?_ | with_reducible refine p_eqT (by first | decide +kernel | assumption) (by first | decide +kernel | assumption) ?_ | with_reducible refine p_neT (by first | decide +kernel | assumption) (by first | decide +kernel | assumption) ?_ | with_reducible refine p_eqS (by first | decide +kernel | assumption) (by first | decide +kernel | assumption) ?_ | with_reducible refine p_neS (by first | decide +kernel | assumption) (by first | decide +kernel | assumption) ?_ | with_reducible refine p_isi (by with_unfolding_all rfl) (by decide) ?_ | with_reducible refine p_lmO (by first | assumption | exact sup_same) ?_ | with_reducible refine p_lmE (by first | assumption | exact sup_same) (by with_unfolding_all rfl) (by (first | exact True.intro | exact szl | (with_reducible assumption) | decide | (simp only [List.length_cons, List.length_nil]; first | exact szl | omega) | omega)) ?_ | with_reducible refine p_freeze (by with_unfolding_all rfl) (by first | assumption | exact sup_same) ?_ | with_reducible refine p_dispE (by assumption) (by with_unfolding_all rfl) ?_ | with_reducible refine p_getI (by with_unfolding_all rfl) ?_ | with_reducible refine p_getS (by with_unfolding_all rfl) (by with_unfolding_all rfl) (by first | with_unfolding_all rfl | with_unfolding_all assumption) ?_ | with_reducible refine p_getN (by with_unfolding_all rfl) (by with_unfolding_all rfl) (by first | with_unfolding_all rfl | with_unfolding_all assumption) ?_ | with_reducible refine p_r (by with_unfolding_all rfl) (by (first | exact True.intro | exact szl | (with_reducible assumption) | decide | (simp only [List.length_cons, List.length_nil]; first | exact szl | omega) | omega)) ?_ | with_reducible refine p_rc (by with_unfolding_all rfl) (by (first | exact True.intro | exact szl | (with_reducible assumption) | decide | (simp only [List.length_cons, List.length_nil]; first | exact szl | omega) | omega)) ?_ | with_reducible refine p_ixS (by first | assumption | exact sup_same) (by with_unfolding_all rfl) ?_ | with_reducible refine p_set (by first | assumption | exact sup_same) (by with_unfolding_all rfl) ?_ | with_reducible refine p_onE (by with_unfolding_all rfl) (by (first | exact True.intro | exact szl | (with_reducible assumption) | decide | (simp only [List.length_cons, List.length_nil]; first | exact szl | omega) | omega)) ?_ | with_reducible refine p_kgetS (by first | with_unfolding_all rfl | with_unfolding_all assumption) ?_ | with_reducible refine p_kinT (by first | with_unfolding_all rfl | with_unfolding_all assumption) ?_ | with_reducible refine p_kinF (by first | with_unfolding_all rfl | with_unfolding_all assumption) ?_ | with_reducible refine p_nkinT (by first | with_unfolding_all rfl | with_unfolding_all assumption) ?_ | with_reducible refine p_nkinF (by first | with_unfolding_all rfl | with_unfolding_all assumption) ?_ | with_reducible refine p_T (by with_unfolding_all rfl) ?_ | with_reducible refine p_F (by with_unfolding_all rfl) ?_ | with_reducible refine And.intro (a := List.length _ ≤ sizeLine) szl ?_ | with_reducible refine And.intro (a := List.length _ = _) (by with_unfolding_all rfl) ?_ | refine feed_ok hns fun y S' hok => ?_))
  exact law_rest' (gus_law (draw hns y)) hok (law_all y _)
end Lk41

namespace Lk41
open PySem PySem.Spec PyProof.Rows L2 PL
abbrev topS (i : Nat) : Stmt := PySem.Challenge.pw_straightroads_k41_terms_made.main.body.getD i (.Pass ⟨0, 0, 0, 0⟩)
structure Fx (K : PySem.W.Frag) (w : World) (mg : Str → Option Value) where
  a_by_sign : Addr
  fd_by_sign : FuncData
  F_by_sign : Fun K "by_sign" "by_sign" (topS 1) a_by_sign fd_by_sign
  g_by_sign : mg "by_sign" = some (.ref a_by_sign)
  b_by_sign : Binds K fd_by_sign ["sign", "one", "other"] []
  a_constant : Addr
  fd_constant : FuncData
  F_constant : Fun K "constant" "constant" (topS 3) a_constant fd_constant
  g_constant : mg "constant" = some (.ref a_constant)
  b_constant : Binds K fd_constant ["number"] []
  a_is_constant : Addr
  fd_is_constant : FuncData
  F_is_constant : Fun K "is_constant" "is_constant" (topS 4) a_is_constant fd_is_constant
  g_is_constant : mg "is_constant" = some (.ref a_is_constant)
  b_is_constant : Binds K fd_is_constant ["term"] []
  a_more_by : Addr
  fd_more_by : FuncData
  F_more_by : Fun K "more_by" "more_by" (topS 5) a_more_by fd_more_by
  g_more_by : mg "more_by" = some (.ref a_more_by)
  b_more_by : Binds K fd_more_by ["term", "number"] []
  a__law_feed : Addr
  fd__law_feed : FuncData
  F__law_feed : Fun K "_law_feed" "_law_feed" (topS 9) a__law_feed fd__law_feed
  g__law_feed : mg "_law_feed" = some (.ref a__law_feed)
  b__law_feed : Binds K fd__law_feed ["_law_script"] []
  a__law_draw : Addr
  fd__law_draw : FuncData
  F__law_draw : Fun K "_law_draw" "_law_draw" (topS 10) a__law_draw fd__law_draw
  g__law_draw : mg "_law_draw" = some (.ref a__law_draw)
  b__law_draw : Binds K fd__law_draw ["_law_feed_here", "_law_many"] []
  a__law_sum : Addr
  fd__law_sum : FuncData
  F__law_sum : Fun K "_law_sum" "_law_sum" (topS 11) a__law_sum fd__law_sum
  g__law_sum : mg "_law_sum" = some (.ref a__law_sum)
  b__law_sum : Binds K fd__law_sum ["_law_word", "_law_one", "_law_other"] []
  a__law_cell : Addr
  fd__law_cell : FuncData
  F__law_cell : Fun K "_law_cell" "_law_cell" (topS 14) a__law_cell fd__law_cell
  g__law_cell : mg "_law_cell" = some (.ref a__law_cell)
  b__law_cell : Binds K fd__law_cell ["_law_memory", "_law_cell_here", "_law_start", "_law_size"] []
  a_of_constants : Addr
  fd_of_constants : FuncData
  F_of_constants : Fun K "of_constants" "of_constants" (topS 6) a_of_constants fd_of_constants
  g_of_constants : mg "of_constants" = some (.ref a_of_constants)
  b_of_constants : Binds K fd_of_constants ["word", "one", "other"] []
  a__law_made : Addr
  fd__law_made : FuncData
  F__law_made : Fun K "_law_made" "_law_made" (topS 12) a__law_made fd__law_made
  g__law_made : mg "_law_made" = some (.ref a__law_made)
  b__law_made : Binds K fd__law_made ["_law_word", "_law_one", "_law_other"] []
  a_made_of : Addr
  fd_made_of : FuncData
  F_made_of : Fun K "made_of" "made_of" (topS 7) a_made_of fd_made_of
  g_made_of : mg "made_of" = some (.ref a_made_of)
  b_made_of : Binds K fd_made_of ["word", "one", "other"] []
  a__law_drawn : Addr
  fd__law_drawn : FuncData
  F__law_drawn : Fun K "_law_drawn" "_law_drawn" (topS 15) a__law_drawn fd__law_drawn
  g__law_drawn : mg "_law_drawn" = some (.ref a__law_drawn)
  b__law_drawn : Binds K fd__law_drawn ["_law_feed_here", "_law_deep"] []
  a__law_worth : Addr
  fd__law_worth : FuncData
  F__law_worth : Fun K "_law_worth" "_law_worth" (topS 13) a__law_worth fd__law_worth
  g__law_worth : mg "_law_worth" = some (.ref a__law_worth)
  b__law_worth : Binds K fd__law_worth ["_law_term", "_law_start", "_law_size"] []
  a_law : Addr
  fd_law : FuncData
  F_law : Fun K "law" "law" (topS 16) a_law fd_law
  g_law : mg "law" = some (.ref a_law)
  b_law : Binds K fd_law ["_law_script"] []
  n_int : mg "int" = none
  n_len : mg "len" = none
  n_list : mg "list" = none
  n_range : mg "range" = none
  n_repr : mg "repr" = none
section
variable {P : Program} {w : World} {K : PySem.W.Frag} {mg : Str → Option Value} {base : Heap}
theorem sc_by_sign : FnScope N_by_sign ["sign", "one", "other"] (defScope (topS 1)) := ⟨rfl, rfl, rfl, by decide +kernel, rfl, by decide +kernel, by decide +kernel⟩
theorem ok_by_sign (T : Fx K w mg) : DFn P w K mg base 1 T.a_by_sign T.fd_by_sign ["sign", "one", "other"] d_by_sign := dfn_mk T.F_by_sign sc_by_sign fun cdv A outer s H h => (dss_g (dss_cons (ds_if (dt_cmp (dop_eq h.u) (de_var (i := 0) rfl (.inl rfl)) de_str (nomark _)) (dss_one (ds_ret (de_callTy dcal_int (by rfl) T.n_int bt_int (da_cons (de_cmp dop_lt (de_var (i := 1) rfl (.inl rfl)) (de_var (i := 2) rfl (.inl rfl)) (nomark _)) da_nil)))) dss_nil) (dss_cons (ds_if (dt_cmp (dop_eq h.u) (de_var (i := 0) rfl (.inl rfl)) de_str (nomark _)) (dss_one (ds_ret (de_op dop_mul (de_var (i := 1) rfl (.inl rfl)) (de_var (i := 2) rfl (.inl rfl))))) dss_nil) (dss_one (ds_ret (de_if (dt_cmp (dop_eq h.u) (de_var (i := 0) rfl (.inl rfl)) de_str (nomark _)) (de_op dop_add (de_var (i := 1) rfl (.inl rfl)) (de_var (i := 2) rfl (.inl rfl))) (de_op dop_sub (de_var (i := 1) rfl (.inl rfl)) (de_var (i := 2) rfl (.inl rfl)))))))))
theorem sc_constant : FnScope N_constant ["number"] (defScope (topS 3)) := ⟨rfl, rfl, rfl, by decide +kernel, rfl, by decide +kernel, by decide +kernel⟩
theorem ok_constant (T : Fx K w mg) : DFn P w K mg base 1 T.a_constant T.fd_constant ["number"] d_constant := dfn_mk T.F_constant sc_constant fun cdv A outer s H h => (dss_g (dss_one (ds_ret (de_tup (da_cons de_non (da_cons (de_var (i := 0) rfl (.inl rfl)) da_nil))))))
theorem sc_is_constant : FnScope N_is_constant ["term"] (defScope (topS 4)) := ⟨rfl, rfl, rfl, by decide +kernel, rfl, by decide +kernel, by decide +kernel⟩
theorem ok_is_constant (T : Fx K w mg) : DFn P w K mg base 1 T.a_is_constant T.fd_is_constant ["term"] d_is_constant := dfn_mk T.F_is_constant sc_is_constant fun cdv A outer s H h => (dss_g (dss_one (ds_ret (de_cmp dop_isN (de_ix (de_var (i := 0) rfl (.inl rfl)) de_int (fun _ _ => rfl)) de_non (nomark _)))))
theorem sc_more_by : FnScope N_more_by ["term", "number"] (defScope (topS 5)) := ⟨rfl, rfl, rfl, by decide +kernel, rfl, by decide +kernel, by decide +kernel⟩
theorem ok_more_by (T : Fx K w mg) : DFn P w K mg base 1 T.a_more_by T.fd_more_by ["term", "number"] d_more_by := dfn_mk T.F_more_by sc_more_by fun cdv A outer s H h => (dss_g (dss_one (ds_ret (de_tup (da_cons (de_ix (de_var (i := 0) rfl (.inl rfl)) de_int (fun _ _ => rfl)) (da_cons (de_op dop_add (de_ix (de_var (i := 0) rfl (.inl rfl)) de_int (fun _ _ => rfl)) (de_var (i := 1) rfl (.inl rfl))) da_nil))))))
theorem sc__law_feed : FnScope N__law_feed ["_law_script"] (defScope (topS 9)) := ⟨rfl, rfl, rfl, by decide +kernel, rfl, by decide +kernel, by decide +kernel⟩
theorem ok__law_feed (T : Fx K w mg) : DFn P w K mg base 1 T.a__law_feed T.fd__law_feed ["_law_script"] d__law_feed := dfn_mk T.F__law_feed sc__law_feed fun cdv A outer s H h => (dss_one (ds_ret (de_lstR (da_cons (de_callTy dcal_list (by rfl) T.n_list bt_list (da_cons (de_slice (de_var (i := 0) rfl (.inl rfl)) do_none (do_some de_int)) da_nil)) (da_cons de_int (da_cons de_int da_nil))))))
theorem sc__law_draw : FnScope N__law_draw ["_law_feed_here", "_law_many"] (defScope (topS 10)) := ⟨rfl, rfl, rfl, by decide +kernel, rfl, by decide +kernel, by decide +kernel⟩
theorem ok__law_draw (T : Fx K w mg) : DFn P w K mg base 1 T.a__law_draw T.fd__law_draw ["_law_feed_here", "_law_many"] d__law_draw := dfn_mk T.F__law_draw sc__law_draw fun cdv A outer s H h => (dss_cons (ds_if (dt_cmp dop_gt (de_ix (de_var (i := 0) rfl (.inl rfl)) de_int (fun _ _ => rfl)) de_int (nomark _)) (dss_cons (ds_set (i := 2) sc__law_draw.nd rfl (.inl rfl) (de_op dop_mod (de_ix (de_var (i := 0) rfl (.inl rfl)) de_int (fun _ _ => rfl)) (de_var (i := 1) rfl (.inl rfl)))) (dss_cons (ds_setI (de_op dop_fdiv (de_ix (de_var (i := 0) rfl (.inl rfl)) de_int (fun _ _ => rfl)) (de_var (i := 1) rfl (.inl rfl))) (de_var (i := 0) rfl (.inl rfl)) de_int) (dss_one (ds_ret (de_var (i := 2) rfl (.inl rfl)))))) dss_nil) (dss_cons (ds_set (i := 3) sc__law_draw.nd rfl (.inl rfl) (de_ix (de_var (i := 0) rfl (.inl rfl)) de_int (fun _ _ => rfl))) (dss_cons (ds_setI (de_op dop_add (de_var (i := 3) rfl (.inl rfl)) de_int) (de_var (i := 0) rfl (.inl rfl)) de_int) (dss_cons (ds_set (i := 4) sc__law_draw.nd rfl (.inl rfl) (de_if (dt_cmp (dop_ne h.u) (de_ix (de_var (i := 0) rfl (.inl rfl)) de_int (fun _ _ => rfl)) (de_lst da_nil) (nomark _)) (de_ix (de_ix (de_var (i := 0) rfl (.inl rfl)) de_int (fun _ _ => rfl)) (de_op dop_mod (de_var (i := 3) rfl (.inl rfl)) (de_callB dcal_len (by rfl) T.n_len bt_len (da_cons (de_ix (de_var (i := 0) rfl (.inl rfl)) de_int (fun _ _ => rfl)) da_nil))) (fun _ _ => rfl)) de_int)) (dss_cons (ds_if (DW.dt (dw_and (dt_cmp dop_ge (de_var (i := 4) rfl (.inl rfl)) (de_op dop_pow de_int de_int) (nomark _)) (dw_and1 (dt_cmp dop_lt (de_var (i := 3) rfl (.inl rfl)) (de_callB dcal_len (by rfl) T.n_len bt_len (da_cons (de_ix (de_var (i := 0) rfl (.inl rfl)) de_int (fun _ _ => rfl)) da_nil)) (nomark _))))) (dss_cons (ds_setI (de_op dop_fdiv (de_var (i := 4) rfl (.inl rfl)) (de_var (i := 1) rfl (.inl rfl))) (de_var (i := 0) rfl (.inl rfl)) de_int) (dss_one (ds_ret (de_op dop_mod (de_var (i := 4) rfl (.inl rfl)) (de_var (i := 1) rfl (.inl rfl)))))) dss_nil) (dss_cons (ds_set (i := 5) sc__law_draw.nd rfl (.inl rfl) (de_op dop_mod (de_op dop_mul (de_op dop_add (de_op dop_add (de_op dop_add (de_op dop_mod (de_var (i := 4) rfl (.inl rfl)) de_int) (de_op dop_mul (de_op dop_mul de_int (de_var (i := 3) rfl (.inl rfl))) (de_var (i := 3) rfl (.inl rfl)))) (de_op dop_mul de_int (de_var (i := 3) rfl (.inl rfl)))) de_int) de_int) de_int)) (dss_cons (ds_set (i := 5) sc__law_draw.nd rfl (.inl rfl) (de_op dop_mod (de_op dop_add (de_op dop_add (de_op dop_mul (de_var (i := 5) rfl (.inl rfl)) (de_var (i := 5) rfl (.inl rfl))) (de_op dop_mul de_int (de_var (i := 3) rfl (.inl rfl)))) de_int) de_int)) (dss_cons (ds_set (i := 5) sc__law_draw.nd rfl (.inl rfl) (de_op dop_mod (de_op dop_add (de_op dop_add (de_op dop_mul (de_var (i := 5) rfl (.inl rfl)) (de_var (i := 5) rfl (.inl rfl))) (de_op dop_mul de_int (de_var (i := 5) rfl (.inl rfl)))) (de_var (i := 3) rfl (.inl rfl))) de_int)) (dss_one (ds_ret (de_op dop_mod (de_op dop_fdiv (de_var (i := 5) rfl (.inl rfl)) de_int) (de_var (i := 1) rfl (.inl rfl)))))))))))))
theorem sc__law_sum : FnScope N__law_sum ["_law_word", "_law_one", "_law_other"] (defScope (topS 11)) := ⟨rfl, rfl, rfl, by decide +kernel, rfl, by decide +kernel, by decide +kernel⟩
theorem ok__law_sum (T : Fx K w mg) : DFn P w K mg base 1 T.a__law_sum T.fd__law_sum ["_law_word", "_law_one", "_law_other"] d__law_sum := dfn_mk T.F__law_sum sc__law_sum fun cdv A outer s H h => (dss_g (dss_cons (ds_if (dt_cmp (dop_eq h.u) (de_var (i := 0) rfl (.inl rfl)) de_str (nomark _)) (dss_one (ds_ret (de_callTy dcal_int (by rfl) T.n_int bt_int (da_cons (de_cmp dop_lt (de_var (i := 1) rfl (.inl rfl)) (de_var (i := 2) rfl (.inl rfl)) (nomark _)) da_nil)))) dss_nil) (dss_cons (ds_if (dt_cmp (dop_eq h.u) (de_var (i := 0) rfl (.inl rfl)) de_str (nomark _)) (dss_one (ds_ret (de_if (dt_cmp (dop_eq h.u) (de_var (i := 2) rfl (.inl rfl)) de_int (nomark _)) de_int (de_op dop_fdiv (de_var (i := 1) rfl (.inl rfl)) (de_var (i := 2) rfl (.inl rfl)))))) dss_nil) (dss_one (ds_ret (de_if (dt_cmp (dop_eq h.u) (de_var (i := 0) rfl (.inl rfl)) de_str (nomark _)) (de_op dop_mul (de_var (i := 1) rfl (.inl rfl)) (de_var (i := 2) rfl (.inl rfl))) (de_if (dt_cmp (dop_eq h.u) (de_var (i := 0) rfl (.inl rfl)) de_str (nomark _)) (de_op dop_add (de_var (i := 1) rfl (.inl rfl)) (de_var (i := 2) rfl (.inl rfl))) (de_op dop_sub (de_var (i := 1) rfl (.inl rfl)) (de_var (i := 2) rfl (.inl rfl))))))))))
theorem sc__law_cell : FnScope N__law_cell ["_law_memory", "_law_cell_here", "_law_start", "_law_size"] (defScope (topS 14)) := ⟨rfl, rfl, rfl, by decide +kernel, rfl, by decide +kernel, by decide +kernel⟩
theorem ok__law_cell (T : Fx K w mg) : DFn P w K mg base 1 T.a__law_cell T.fd__law_cell ["_law_memory", "_law_cell_here", "_law_start", "_law_size"] d__law_cell := dfn_dead T.F__law_cell sc__law_cell
theorem sc_of_constants : FnScope N_of_constants ["word", "one", "other"] (defScope (topS 6)) := ⟨rfl, rfl, rfl, by decide +kernel, rfl, by decide +kernel, by decide +kernel⟩
theorem ok_of_constants (T : Fx K w mg) : DFn P w K mg base 2 T.a_of_constants T.fd_of_constants ["word", "one", "other"] d_of_constants := dfn_mk T.F_of_constants sc_of_constants fun cdv A outer s H h => (dss_g (dss_cons (ds_if (dt_cmp (dop_ne h.u) (de_var (i := 0) rfl (.inl rfl)) de_str (nomark _)) (dss_one (ds_ret (de_call ((ok_constant T).up (by decide)) h.g h.r (by rfl) T.g_constant T.F_constant.kp T.b_constant .nil (fun _ _ => .nil) (da_cons (de_call ((ok_by_sign T).up (by decide)) h.g h.r (by rfl) T.g_by_sign T.F_by_sign.kp T.b_by_sign .nil (fun _ _ => .nil) (da_cons (de_var (i := 0) rfl (.inl rfl)) (da_cons (de_ix (de_var (i := 1) rfl (.inl rfl)) de_int (fun _ _ => rfl)) (da_cons (de_ix (de_var (i := 2) rfl (.inl rfl)) de_int (fun _ _ => rfl)) da_nil)))) da_nil)))) dss_nil) (dss_one (ds_ret (de_if (dt_cmp (dop_eq h.u) (de_ix (de_var (i := 2) rfl (.inl rfl)) de_int (fun _ _ => rfl)) de_int (nomark _)) de_non (de_call ((ok_constant T).up (by decide)) h.g h.r (by rfl) T.g_constant T.F_constant.kp T.b_constant .nil (fun _ _ => .nil) (da_cons (de_op dop_fdiv (de_ix (de_var (i := 1) rfl (.inl rfl)) de_int (fun _ _ => rfl)) (de_ix (de_var (i := 2) rfl (.inl rfl)) de_int (fun _ _ => rfl))) da_nil)))))))
theorem sc__law_made : FnScope N__law_made ["_law_word", "_law_one", "_law_other"] (defScope (topS 12)) := ⟨rfl, rfl, rfl, by decide +kernel, rfl, by decide +kernel, by decide +kernel⟩
theorem ok__law_made (T : Fx K w mg) : DFn P w K mg base 2 T.a__law_made T.fd__law_made ["_law_word", "_law_one", "_law_other"] d__law_made := dfn_mk T.F__law_made sc__law_made fun cdv A outer s H h => (dss_g (dss_cons (ds_if (DW.dt (dw_and (dt_cmp dop_isN (de_ix (de_var (i := 1) rfl (.inl rfl)) de_int (fun _ _ => rfl)) de_non (nomark _)) (dw_and (dt_cmp dop_isN (de_ix (de_var (i := 2) rfl (.inl rfl)) de_int (fun _ _ => rfl)) de_non (nomark _)) (dw_and1 (dt_not (DW.dt (dw_and (dt_cmp (dop_eq h.u) (de_var (i := 0) rfl (.inl rfl)) de_str (nomark _)) (dw_and1 (dt_cmp (dop_eq h.u) (de_ix (de_var (i := 2) rfl (.inl rfl)) de_int (fun _ _ => rfl)) de_int (nomark _)))))))))) (dss_one (ds_ret (de_tup (da_cons de_non (da_cons (de_call ((ok__law_sum T).up (by decide)) h.g h.r (by rfl) T.g__law_sum T.F__law_sum.kp T.b__law_sum .nil (fun _ _ => .nil) (da_cons (de_var (i := 0) rfl (.inl rfl)) (da_cons (de_ix (de_var (i := 1) rfl (.inl rfl)) de_int (fun _ _ => rfl)) (da_cons (de_ix (de_var (i := 2) rfl (.inl rfl)) de_int (fun _ _ => rfl)) da_nil)))) da_nil))))) dss_nil) (dss_cons (ds_if (DW.dt (dw_and (dt_cmp (dop_eq h.u) (de_var (i := 0) rfl (.inl rfl)) de_str (nomark _)) (dw_and1 (dt_cmp dop_isN (de_ix (de_var (i := 1) rfl (.inl rfl)) de_int (fun _ _ => rfl)) de_non (nomark _))))) (dss_one (ds_ret (de_tup (da_cons (de_ix (de_var (i := 2) rfl (.inl rfl)) de_int (fun _ _ => rfl)) (da_cons (de_op dop_add (de_ix (de_var (i := 2) rfl (.inl rfl)) de_int (fun _ _ => rfl)) (de_ix (de_var (i := 1) rfl (.inl rfl)) de_int (fun _ _ => rfl))) da_nil))))) dss_nil) (dss_cons (ds_if (DW.dt (dw_and (dt_cmp (dop_in h.u) (de_var (i := 0) rfl (.inl rfl)) (de_tup (da_cons de_str (da_cons de_str da_nil))) (by rfl)) (dw_and1 (dt_cmp dop_isN (de_ix (de_var (i := 2) rfl (.inl rfl)) de_int (fun _ _ => rfl)) de_non (nomark _))))) (dss_one (ds_ret (de_tup (da_cons (de_ix (de_var (i := 1) rfl (.inl rfl)) de_int (fun _ _ => rfl)) (da_cons (de_call ((ok__law_sum T).up (by decide)) h.g h.r (by rfl) T.g__law_sum T.F__law_sum.kp T.b__law_sum .nil (fun _ _ => .nil) (da_cons (de_var (i := 0) rfl (.inl rfl)) (da_cons (de_ix (de_var (i := 1) rfl (.inl rfl)) de_int (fun _ _ => rfl)) (da_cons (de_ix (de_var (i := 2) rfl (.inl rfl)) de_int (fun _ _ => rfl)) da_nil)))) da_nil))))) dss_nil) (dss_one (ds_ret (de_tup (da_cons (de_tup (da_cons (de_var (i := 0) rfl (.inl rfl)) (da_cons (de_var (i := 1) rfl (.inl rfl)) (da_cons (de_var (i := 2) rfl (.inl rfl)) da_nil)))) (da_cons de_int da_nil)))))))))
theorem sc_made_of : FnScope N_made_of ["word", "one", "other"] (defScope (topS 7)) := ⟨rfl, rfl, rfl, by decide +kernel, rfl, by decide +kernel, by decide +kernel⟩
theorem ok_made_of (T : Fx K w mg) : DFn P w K mg base 3 T.a_made_of T.fd_made_of ["word", "one", "other"] d_made_of := dfn_mk T.F_made_of sc_made_of fun cdv A outer s H h => (dss_g (dss_cons (ds_set (i := 3) sc_made_of.nd rfl (.inl rfl) (de_if (DW.dt (dw_and (dt_val (de_call ((ok_is_constant T).up (by decide)) h.g h.r (by rfl) T.g_is_constant T.F_is_constant.kp T.b_is_constant .nil (fun _ _ => .nil) (da_cons (de_var (i := 1) rfl (.inl rfl)) da_nil))) (dw_and1 (dt_val (de_call ((ok_is_constant T).up (by decide)) h.g h.r (by rfl) T.g_is_constant T.F_is_constant.kp T.b_is_constant .nil (fun _ _ => .nil) (da_cons (de_var (i := 2) rfl (.inl rfl)) da_nil)))))) (de_call ((ok_of_constants T).up (by decide)) h.g h.r (by rfl) T.g_of_constants T.F_of_constants.kp T.b_of_constants .nil (fun _ _ => .nil) (da_cons (de_var (i := 0) rfl (.inl rfl)) (da_cons (de_var (i := 1) rfl (.inl rfl)) (da_cons (de_var (i := 2) rfl (.inl rfl)) da_nil)))) de_non)) (dss_cons (ds_if (dt_cmp dop_isntN (de_var (i := 3) rfl (.inl rfl)) de_non (nomark _)) (dss_one (ds_ret (de_var (i := 3) rfl (.inl rfl)))) dss_nil) (dss_cons (ds_if (DW.dt (dw_and (dt_cmp (dop_eq h.u) (de_var (i := 0) rfl (.inl rfl)) de_str (nomark _)) (dw_and1 (dt_val (de_call ((ok_is_constant T).up (by decide)) h.g h.r (by rfl) T.g_is_constant T.F_is_constant.kp T.b_is_constant .nil (fun _ _ => .nil) (da_cons (de_var (i := 1) rfl (.inl rfl)) da_nil)))))) (dss_one (ds_ret (de_call ((ok_more_by T).up (by decide)) h.g h.r (by rfl) T.g_more_by T.F_more_by.kp T.b_more_by .nil (fun _ _ => .nil) (da_cons (de_var (i := 2) rfl (.inl rfl)) (da_cons (de_ix (de_var (i := 1) rfl (.inl rfl)) de_int (fun _ _ => rfl)) da_nil))))) dss_nil) (dss_cons (ds_if (DW.dt (dw_and (dt_cmp (dop_in h.u) (de_var (i := 0) rfl (.inl rfl)) (de_tup (da_cons de_str (da_cons de_str da_nil))) (by rfl)) (dw_and1 (dt_val (de_call ((ok_is_constant T).up (by decide)) h.g h.r (by rfl) T.g_is_constant T.F_is_constant.kp T.b_is_constant .nil (fun _ _ => .nil) (da_cons (de_var (i := 2) rfl (.inl rfl)) da_nil)))))) (dss_one (ds_ret (de_call ((ok_more_by T).up (by decide)) h.g h.r (by rfl) T.g_more_by T.F_more_by.kp T.b_more_by .nil (fun _ _ => .nil) (da_cons (de_var (i := 1) rfl (.inl rfl)) (da_cons (de_if (dt_cmp (dop_eq h.u) (de_var (i := 0) rfl (.inl rfl)) de_str (nomark _)) (de_ix (de_var (i := 2) rfl (.inl rfl)) de_int (fun _ _ => rfl)) (de_op dop_sub de_int (de_ix (de_var (i := 2) rfl (.inl rfl)) de_int (fun _ _ => rfl)))) da_nil))))) dss_nil) (dss_one (ds_ret (de_tup (da_cons (de_tup (da_cons (de_var (i := 0) rfl (.inl rfl)) (da_cons (de_var (i := 1) rfl (.inl rfl)) (da_cons (de_var (i := 2) rfl (.inl rfl)) da_nil)))) (da_cons de_int da_nil))))))))))
theorem sc__law_drawn : FnScope N__law_drawn ["_law_feed_here", "_law_deep"] (defScope (topS 15)) := ⟨rfl, rfl, rfl, by decide +kernel, rfl, by decide +kernel, by decide +kernel⟩
theorem okG__law_drawn (T : Fx K w mg) : ∀ n, DFn P w K mg base (2 + n) T.a__law_drawn T.fd__law_drawn ["_law_feed_here", "_law_deep"] (D__law_drawn n 0)
  | 0 => dfn_dead (k := 1) T.F__law_drawn sc__law_drawn
  | n + 1 => have ih := okG__law_drawn T n; dfn_mk T.F__law_drawn sc__law_drawn fun cdv A outer s H h => (dss_g (dss_cons (ds_if (DW.dt (dw_or (dt_cmp (dop_eq h.u) (de_var (i := 1) rfl (.inl rfl)) de_int (nomark _)) (dw_or1 (dt_cmp (dop_eq h.u) (de_call ((ok__law_draw T).up (k := 2 + n) (Nat.le_trans (m := 2) (by decide) (Nat.le_add_right 2 n))) h.g h.r (by rfl) T.g__law_draw T.F__law_draw.kp T.b__law_draw .nil (fun _ _ => .nil) (da_cons (de_var (i := 0) rfl (.inl rfl)) (da_cons de_int da_nil))) de_int (nomark _))))) (dss_cons (ds_set (i := 2) sc__law_drawn.nd rfl (.inl rfl) (de_lst (da_cons de_int (da_cons de_int (da_cons (de_un dun_neg de_int) (da_cons de_int (da_cons de_int (da_cons (de_op dop_pow de_int de_int) (da_cons (de_un dun_neg de_int) da_nil))))))))) (dss_cons (ds_if (dt_cmp (dop_eq h.u) (de_call ((ok__law_draw T).up (k := 2 + n) (Nat.le_trans (m := 2) (by decide) (Nat.le_add_right 2 n))) h.g h.r (by rfl) T.g__law_draw T.F__law_draw.kp T.b__law_draw .nil (fun _ _ => .nil) (da_cons (de_var (i := 0) rfl (.inl rfl)) (da_cons de_int da_nil))) de_int (nomark _)) (dss_one (ds_ret (de_tup (da_cons de_non (da_cons (de_ix (de_var (i := 2) rfl (.inl rfl)) (de_call ((ok__law_draw T).up (k := 2 + n) (Nat.le_trans (m := 2) (by decide) (Nat.le_add_right 2 n))) h.g h.r (by rfl) T.g__law_draw T.F__law_draw.kp T.b__law_draw .nil (fun _ _ => .nil) (da_cons (de_var (i := 0) rfl (.inl rfl)) (da_cons de_int da_nil))) (fun _ _ => rfl)) da_nil))))) dss_nil) (dss_one (ds_ret (de_tup (da_cons (de_tup (da_cons (de_ix (de_lst (da_cons de_str (da_cons de_str da_nil))) (de_call ((ok__law_draw T).up (k := 2 + n) (Nat.le_trans (m := 2) (by decide) (Nat.le_add_right 2 n))) h.g h.r (by rfl) T.g__law_draw T.F__law_draw.kp T.b__law_draw .nil (fun _ _ => .nil) (da_cons (de_var (i := 0) rfl (.inl rfl)) (da_cons de_int da_nil))) (fun _ _ => rfl)) (da_cons (de_ix (de_lst (da_cons de_str (da_cons de_str da_nil))) (de_call ((ok__law_draw T).up (k := 2 + n) (Nat.le_trans (m := 2) (by decide) (Nat.le_add_right 2 n))) h.g h.r (by rfl) T.g__law_draw T.F__law_draw.kp T.b__law_draw .nil (fun _ _ => .nil) (da_cons (de_var (i := 0) rfl (.inl rfl)) (da_cons de_int da_nil))) (fun _ _ => rfl)) da_nil))) (da_cons (de_ix (de_lst (da_cons de_int (da_cons de_int (da_cons de_int (da_cons (de_un dun_neg de_int) da_nil))))) (de_call ((ok__law_draw T).up (k := 2 + n) (Nat.le_trans (m := 2) (by decide) (Nat.le_add_right 2 n))) h.g h.r (by rfl) T.g__law_draw T.F__law_draw.kp T.b__law_draw .nil (fun _ _ => .nil) (da_cons (de_var (i := 0) rfl (.inl rfl)) (da_cons de_int da_nil))) (fun _ _ => rfl)) da_nil))))))) dss_nil) (dss_cons (ds_set (i := 3) sc__law_drawn.nd rfl (.inl rfl) (de_ix (de_lst (da_cons de_str (da_cons de_str (da_cons de_str (da_cons de_str (da_cons de_str da_nil)))))) (de_call ((ok__law_draw T).up (k := 2 + n) (Nat.le_trans (m := 2) (by decide) (Nat.le_add_right 2 n))) h.g h.r (by rfl) T.g__law_draw T.F__law_draw.kp T.b__law_draw .nil (fun _ _ => .nil) (da_cons (de_var (i := 0) rfl (.inl rfl)) (da_cons de_int da_nil))) (fun _ _ => rfl))) (dss_one (ds_ret (de_call ((ok__law_made T).up (k := 2 + n) (Nat.le_trans (m := 2) (by decide) (Nat.le_add_right 2 n))) h.g h.r (by rfl) T.g__law_made T.F__law_made.kp T.b__law_made .nil (fun _ _ => .nil) (da_cons (de_var (i := 3) rfl (.inl rfl)) (da_cons (de_call (ih.up (k := 2 + n) (Nat.le_refl _)) h.g h.r (by rfl) T.g__law_drawn T.F__law_drawn.kp T.b__law_drawn .nil (fun _ _ => .nil) (da_cons (de_var (i := 0) rfl (.inl rfl)) (da_cons (de_op dop_sub (de_var (i := 1) rfl (.inl rfl)) de_int) da_nil))) (da_cons (de_call (ih.up (k := 2 + n) (Nat.le_refl _)) h.g h.r (by rfl) T.g__law_drawn T.F__law_drawn.kp T.b__law_drawn .nil (fun _ _ => .nil) (da_cons (de_var (i := 0) rfl (.inl rfl)) (da_cons (de_op dop_sub (de_var (i := 1) rfl (.inl rfl)) de_int) da_nil))) da_nil)))))))))
theorem ok__law_drawn (T : Fx K w mg) : DFn P w K mg base 8 T.a__law_drawn T.fd__law_drawn ["_law_feed_here", "_law_deep"] d__law_drawn := (okG__law_drawn T 6)
theorem sc__law_worth : FnScope N__law_worth ["_law_term", "_law_start", "_law_size"] (defScope (topS 13)) := ⟨rfl, rfl, rfl, by decide +kernel, rfl, by decide +kernel, by decide +kernel⟩
theorem okG__law_worth (T : Fx K w mg) : ∀ n, DFn P w K mg base (1 + n) T.a__law_worth T.fd__law_worth ["_law_term", "_law_start", "_law_size"] (D__law_worth n 0)
  | 0 => dfn_dead (k := 0) T.F__law_worth sc__law_worth
  | n + 1 => have ih := okG__law_worth T n; dfn_mk T.F__law_worth sc__law_worth fun cdv A outer s H h => (dss_g (dss_cons (ds_asg (de_var (i := 0) rfl (.inl rfl)) (dp_tup rfl (dps_cons (dp_name (i := 3) sc__law_worth.nd rfl (.inl rfl)) (dps_cons (dp_name (i := 4) sc__law_worth.nd rfl (.inl rfl)) dps_nil)))) (dss_cons (ds_if (dt_cmp dop_isN (de_var (i := 3) rfl (.inl rfl)) de_non (nomark _)) (dss_one (ds_ret (de_var (i := 4) rfl (.inl rfl)))) dss_nil) (dss_cons (ds_if (dt_cmp (dop_in h.u) (de_ix (de_var (i := 3) rfl (.inl rfl)) de_int (fun _ _ => rfl)) (de_tup (da_cons de_str (da_cons de_str da_nil))) (by rfl)) (dss_one (ds_ret (de_op dop_add (de_var (i := 4) rfl (.inl rfl)) (de_get2 h.u (de_ix (de_var (i := 1) rfl (.inl rfl)) de_int (fun _ _ => rfl)) (de_ix (de_var (i := 3) rfl (.inl rfl)) de_int (fun _ _ => rfl)) de_int ⟨by rfl, by rfl, by rfl, by rfl⟩)))) dss_nil) (dss_cons (ds_if (dt_cmp (dop_eq h.u) (de_ix (de_var (i := 3) rfl (.inl rfl)) de_int (fun _ _ => rfl)) de_str (nomark _)) (dss_one ds_dead) dss_nil) (dss_cons (ds_if (dt_cmp (dop_eq h.u) (de_ix (de_var (i := 3) rfl (.inl rfl)) de_int (fun _ _ => rfl)) de_str (nomark _)) (dss_one ds_dead) dss_nil) (dss_cons (ds_if (dt_cmp (dop_eq h.u) (de_ix (de_var (i := 3) rfl (.inl rfl)) de_int (fun _ _ => rfl)) de_str (nomark _)) (dss_one ds_dead) dss_nil) (dss_one (ds_ret (de_op dop_add (de_var (i := 4) rfl (.inl rfl)) (de_call ((ok__law_sum T).up (k := 1 + n) (Nat.le_trans (m := 1) (by decide) (Nat.le_add_right 1 n))) h.g h.r (by rfl) T.g__law_sum T.F__law_sum.kp T.b__law_sum .nil (fun _ _ => .nil) (da_cons (de_ix (de_var (i := 3) rfl (.inl rfl)) de_int (fun _ _ => rfl)) (da_cons (de_call (ih.up (k := 1 + n) (Nat.le_refl _)) h.g h.r (by rfl) T.g__law_worth T.F__law_worth.kp T.b__law_worth .nil (fun _ _ => .nil) (da_cons (de_ix (de_var (i := 3) rfl (.inl rfl)) de_int (fun _ _ => rfl)) (da_cons (de_var (i := 1) rfl (.inl rfl)) (da_cons (de_var (i := 2) rfl (.inl rfl)) da_nil)))) (da_cons (de_call (ih.up (k := 1 + n) (Nat.le_refl _)) h.g h.r (by rfl) T.g__law_worth T.F__law_worth.kp T.b__law_worth .nil (fun _ _ => .nil) (da_cons (de_ix (de_var (i := 3) rfl (.inl rfl)) de_int (fun _ _ => rfl)) (da_cons (de_var (i := 1) rfl (.inl rfl)) (da_cons (de_var (i := 2) rfl (.inl rfl)) da_nil)))) da_nil))))))))))))))
theorem ok__law_worth (T : Fx K w mg) : DFn P w K mg base 13 T.a__law_worth T.fd__law_worth ["_law_term", "_law_start", "_law_size"] d__law_worth := (okG__law_worth T 12)
theorem sc_law : FnScope N_law ["_law_script"] (defScope (topS 16)) := ⟨rfl, rfl, rfl, by decide +kernel, rfl, by decide +kernel, by decide +kernel⟩
theorem ok_law (T : Fx K w mg) : DFn P w K mg base 14 T.a_law T.fd_law ["_law_script"] d_law := dfn_mk T.F_law sc_law fun cdv A outer s H h => (dss_cons (ds_set (i := 1) sc_law.nd rfl (.inl rfl) (de_call ((ok__law_feed T).up (by decide)) h.g h.r (by rfl) T.g__law_feed T.F__law_feed.kp T.b__law_feed .nil (fun _ _ => .nil) (da_cons (de_var (i := 0) rfl (.inl rfl)) da_nil))) (dss_cons (ds_for PassesOwn.never rfl (di_range1 (by rfl) T.n_range (da_cons de_int da_nil)) (dp_name (i := 2) sc_law.nd rfl (.inl rfl)) (dss_cons (ds_par (i := 3) (j := 4) rfl sc_law.nd rfl rfl (by decide) rfl rfl (da_cons (de_call ((ok__law_drawn T).up (by decide)) h.g h.r (by rfl) T.g__law_drawn T.F__law_drawn.kp T.b__law_drawn .nil (fun _ _ => .nil) (da_cons (de_var (i := 1) rfl (.inl rfl)) (da_cons de_int da_nil))) (da_cons (de_call ((ok__law_drawn T).up (by decide)) h.g h.r (by rfl) T.g__law_drawn T.F__law_drawn.kp T.b__law_drawn .nil (fun _ _ => .nil) (da_cons (de_var (i := 1) rfl (.inl rfl)) (da_cons de_int da_nil))) da_nil)) (by rfl)) (dss_cons (ds_set (i := 5) sc_law.nd rfl (.inl rfl) (de_callB (dcal_repr h.g h.u) (by rfl) T.n_repr bt_repr (da_cons (de_tup (da_cons (de_var (i := 3) rfl (.inl rfl)) (da_cons (de_var (i := 4) rfl (.inl rfl)) da_nil))) da_nil))) (dss_one (ds_for PassesOwn.never rfl (di_seq (de_tup (da_cons de_str (da_cons de_str (da_cons de_str (da_cons de_str (da_cons de_str da_nil))))))) (dp_name (i := 6) sc_law.nd rfl (.inl rfl)) (dss_cons (ds_set (i := 7) sc_law.nd rfl (.inl rfl) (de_call ((ok_made_of T).up (by decide)) h.g h.r (by rfl) T.g_made_of T.F_made_of.kp T.b_made_of .nil (fun _ _ => .nil) (da_cons (de_var (i := 6) rfl (.inl rfl)) (da_cons (de_var (i := 3) rfl (.inl rfl)) (da_cons (de_var (i := 4) rfl (.inl rfl)) da_nil))))) (dss_cons (ds_if (dt_cmp (dop_ne h.u) (de_callB (dcal_repr h.g h.u) (by rfl) T.n_repr bt_repr (da_cons (de_var (i := 7) rfl (.inl rfl)) da_nil)) (de_callB (dcal_repr h.g h.u) (by rfl) T.n_repr bt_repr (da_cons (de_call ((ok__law_made T).up (by decide)) h.g h.r (by rfl) T.g__law_made T.F__law_made.kp T.b__law_made .nil (fun _ _ => .nil) (da_cons (de_var (i := 6) rfl (.inl rfl)) (da_cons (de_var (i := 3) rfl (.inl rfl)) (da_cons (de_var (i := 4) rfl (.inl rfl)) da_nil)))) da_nil)) (nomark _)) (dss_one (ds_ret de_bl)) dss_nil) (dss_cons (ds_set (i := 8) sc_law.nd rfl (.inl rfl) (de_tup (da_cons (de_disp (dpp_cons (de_op dop_sub (de_call ((ok__law_draw T).up (by decide)) h.g h.r (by rfl) T.g__law_draw T.F__law_draw.kp T.b__law_draw .nil (fun _ _ => .nil) (da_cons (de_var (i := 1) rfl (.inl rfl)) (da_cons de_int da_nil))) de_int) (dpp_cons (de_op dop_sub (de_call ((ok__law_draw T).up (by decide)) h.g h.r (by rfl) T.g__law_draw T.F__law_draw.kp T.b__law_draw .nil (fun _ _ => .nil) (da_cons (de_var (i := 1) rfl (.inl rfl)) (da_cons de_int da_nil))) de_int) dpp_nil)) (by decide +kernel) (by decide)) (da_cons de_dict0 da_nil)))) (dss_cons (ds_set (i := 9) sc_law.nd rfl (.inl rfl) (de_call ((ok__law_sum T).up (by decide)) h.g h.r (by rfl) T.g__law_sum T.F__law_sum.kp T.b__law_sum .nil (fun _ _ => .nil) (da_cons (de_var (i := 6) rfl (.inl rfl)) (da_cons (de_call ((ok__law_worth T).up (by decide)) h.g h.r (by rfl) T.g__law_worth T.F__law_worth.kp T.b__law_worth .nil (fun _ _ => .nil) (da_cons (de_var (i := 3) rfl (.inl rfl)) (da_cons (de_var (i := 8) rfl (.inl rfl)) (da_cons de_int da_nil)))) (da_cons (de_call ((ok__law_worth T).up (by decide)) h.g h.r (by rfl) T.g__law_worth T.F__law_worth.kp T.b__law_worth .nil (fun _ _ => .nil) (da_cons (de_var (i := 4) rfl (.inl rfl)) (da_cons (de_var (i := 8) rfl (.inl rfl)) (da_cons de_int da_nil)))) da_nil))))) (dss_one (ds_if (DW.dt (dw_or (dt_cmp (dop_ne h.u) (de_call ((ok__law_worth T).up (by decide)) h.g h.r (by rfl) T.g__law_worth T.F__law_worth.kp T.b__law_worth .nil (fun _ _ => .nil) (da_cons (de_var (i := 7) rfl (.inl rfl)) (da_cons (de_var (i := 8) rfl (.inl rfl)) (da_cons de_int da_nil)))) (de_var (i := 9) rfl (.inl rfl)) (nomark _)) (dw_or1 (dt_cmp (dop_ne h.u) (de_callB (dcal_repr h.g h.u) (by rfl) T.n_repr bt_repr (da_cons (de_tup (da_cons (de_var (i := 3) rfl (.inl rfl)) (da_cons (de_var (i := 4) rfl (.inl rfl)) da_nil))) da_nil)) (de_var (i := 5) rfl (.inl rfl)) (nomark _))))) (dss_one (ds_ret de_bl)) dss_nil))))))))))) (dss_one (ds_ret de_bl))))
end
theorem fx_mk {w : World} {K : PySem.W.Frag} {h : Heap} {mg : Str → Option Value} (X : K.In h) (G : h.Ns mainGlobals mg)
  {a0 : Addr} {od0 an0 : Option Addr} {sl0 : Array (Option Value)} {oc0 kV0 dc0 pm0 cd0 ct0 : Value}
  (p0 : PySem.W.nsIn K mainGlobals "by_sign" = some (some (.ref a0))) (l0 : K.lookup a0 = some ⟨oc0, od0, .func (PySem.W.fnOf "by_sign" "by_sign" (defArgs (topS 1)) (defBody (topS 1)) (defScope (topS 1)) .none kV0 dc0 pm0 an0 cd0 ct0), sl0⟩) (c0 : PySem.W.codeIn K cd0 "by_sign" = true) (k0 : PySem.W.keepIn K (.ref a0) = true)
  {a1 : Addr} {od1 an1 : Option Addr} {sl1 : Array (Option Value)} {oc1 kV1 dc1 pm1 cd1 ct1 : Value}
  (p1 : PySem.W.nsIn K mainGlobals "constant" = some (some (.ref a1))) (l1 : K.lookup a1 = some ⟨oc1, od1, .func (PySem.W.fnOf "constant" "constant" (defArgs (topS 3)) (defBody (topS 3)) (defScope (topS 3)) .none kV1 dc1 pm1 an1 cd1 ct1), sl1⟩) (c1 : PySem.W.codeIn K cd1 "constant" = true) (k1 : PySem.W.keepIn K (.ref a1) = true)
  {a2 : Addr} {od2 an2 : Option Addr} {sl2 : Array (Option Value)} {oc2 kV2 dc2 pm2 cd2 ct2 : Value}
  (p2 : PySem.W.nsIn K mainGlobals "is_constant" = some (some (.ref a2))) (l2 : K.lookup a2 = some ⟨oc2, od2, .func (PySem.W.fnOf "is_constant" "is_constant" (defArgs (topS 4)) (defBody (topS 4)) (defScope (topS 4)) .none kV2 dc2 pm2 an2 cd2 ct2), sl2⟩) (c2 : PySem.W.codeIn K cd2 "is_constant" = true) (k2 : PySem.W.keepIn K (.ref a2) = true)
  {a3 : Addr} {od3 an3 : Option Addr} {sl3 : Array (Option Value)} {oc3 kV3 dc3 pm3 cd3 ct3 : Value}
  (p3 : PySem.W.nsIn K mainGlobals "more_by" = some (some (.ref a3))) (l3 : K.lookup a3 = some ⟨oc3, od3, .func (PySem.W.fnOf "more_by" "more_by" (defArgs (topS 5)) (defBody (topS 5)) (defScope (topS 5)) .none kV3 dc3 pm3 an3 cd3 ct3), sl3⟩) (c3 : PySem.W.codeIn K cd3 "more_by" = true) (k3 : PySem.W.keepIn K (.ref a3) = true)
  {a4 : Addr} {od4 an4 : Option Addr} {sl4 : Array (Option Value)} {oc4 kV4 dc4 pm4 cd4 ct4 : Value}
  (p4 : PySem.W.nsIn K mainGlobals "_law_feed" = some (some (.ref a4))) (l4 : K.lookup a4 = some ⟨oc4, od4, .func (PySem.W.fnOf "_law_feed" "_law_feed" (defArgs (topS 9)) (defBody (topS 9)) (defScope (topS 9)) .none kV4 dc4 pm4 an4 cd4 ct4), sl4⟩) (c4 : PySem.W.codeIn K cd4 "_law_feed" = true) (k4 : PySem.W.keepIn K (.ref a4) = true)
  {a5 : Addr} {od5 an5 : Option Addr} {sl5 : Array (Option Value)} {oc5 kV5 dc5 pm5 cd5 ct5 : Value}
  (p5 : PySem.W.nsIn K mainGlobals "_law_draw" = some (some (.ref a5))) (l5 : K.lookup a5 = some ⟨oc5, od5, .func (PySem.W.fnOf "_law_draw" "_law_draw" (defArgs (topS 10)) (defBody (topS 10)) (defScope (topS 10)) .none kV5 dc5 pm5 an5 cd5 ct5), sl5⟩) (c5 : PySem.W.codeIn K cd5 "_law_draw" = true) (k5 : PySem.W.keepIn K (.ref a5) = true)
  {a6 : Addr} {od6 an6 : Option Addr} {sl6 : Array (Option Value)} {oc6 kV6 dc6 pm6 cd6 ct6 : Value}
  (p6 : PySem.W.nsIn K mainGlobals "_law_sum" = some (some (.ref a6))) (l6 : K.lookup a6 = some ⟨oc6, od6, .func (PySem.W.fnOf "_law_sum" "_law_sum" (defArgs (topS 11)) (defBody (topS 11)) (defScope (topS 11)) .none kV6 dc6 pm6 an6 cd6 ct6), sl6⟩) (c6 : PySem.W.codeIn K cd6 "_law_sum" = true) (k6 : PySem.W.keepIn K (.ref a6) = true)
  {a7 : Addr} {od7 an7 : Option Addr} {sl7 : Array (Option Value)} {oc7 kV7 dc7 pm7 cd7 ct7 : Value}
  (p7 : PySem.W.nsIn K mainGlobals "_law_cell" = some (some (.ref a7))) (l7 : K.lookup a7 = some ⟨oc7, od7, .func (PySem.W.fnOf "_law_cell" "_law_cell" (defArgs (topS 14)) (defBody (topS 14)) (defScope (topS 14)) .none kV7 dc7 pm7 an7 cd7 ct7), sl7⟩) (c7 : PySem.W.codeIn K cd7 "_law_cell" = true) (k7 : PySem.W.keepIn K (.ref a7) = true)
  {a8 : Addr} {od8 an8 : Option Addr} {sl8 : Array (Option Value)} {oc8 kV8 dc8 pm8 cd8 ct8 : Value}
  (p8 : PySem.W.nsIn K mainGlobals "of_constants" = some (some (.ref a8))) (l8 : K.lookup a8 = some ⟨oc8, od8, .func (PySem.W.fnOf "of_constants" "of_constants" (defArgs (topS 6)) (defBody (topS 6)) (defScope (topS 6)) .none kV8 dc8 pm8 an8 cd8 ct8), sl8⟩) (c8 : PySem.W.codeIn K cd8 "of_constants" = true) (k8 : PySem.W.keepIn K (.ref a8) = true)
  {a9 : Addr} {od9 an9 : Option Addr} {sl9 : Array (Option Value)} {oc9 kV9 dc9 pm9 cd9 ct9 : Value}
  (p9 : PySem.W.nsIn K mainGlobals "_law_made" = some (some (.ref a9))) (l9 : K.lookup a9 = some ⟨oc9, od9, .func (PySem.W.fnOf "_law_made" "_law_made" (defArgs (topS 12)) (defBody (topS 12)) (defScope (topS 12)) .none kV9 dc9 pm9 an9 cd9 ct9), sl9⟩) (c9 : PySem.W.codeIn K cd9 "_law_made" = true) (k9 : PySem.W.keepIn K (.ref a9) = true)
  {a10 : Addr} {od10 an10 : Option Addr} {sl10 : Array (Option Value)} {oc10 kV10 dc10 pm10 cd10 ct10 : Value}
  (p10 : PySem.W.nsIn K mainGlobals "made_of" = some (some (.ref a10))) (l10 : K.lookup a10 = some ⟨oc10, od10, .func (PySem.W.fnOf "made_of" "made_of" (defArgs (topS 7)) (defBody (topS 7)) (defScope (topS 7)) .none kV10 dc10 pm10 an10 cd10 ct10), sl10⟩) (c10 : PySem.W.codeIn K cd10 "made_of" = true) (k10 : PySem.W.keepIn K (.ref a10) = true)
  {a11 : Addr} {od11 an11 : Option Addr} {sl11 : Array (Option Value)} {oc11 kV11 dc11 pm11 cd11 ct11 : Value}
  (p11 : PySem.W.nsIn K mainGlobals "_law_drawn" = some (some (.ref a11))) (l11 : K.lookup a11 = some ⟨oc11, od11, .func (PySem.W.fnOf "_law_drawn" "_law_drawn" (defArgs (topS 15)) (defBody (topS 15)) (defScope (topS 15)) .none kV11 dc11 pm11 an11 cd11 ct11), sl11⟩) (c11 : PySem.W.codeIn K cd11 "_law_drawn" = true) (k11 : PySem.W.keepIn K (.ref a11) = true)
  {a12 : Addr} {od12 an12 : Option Addr} {sl12 : Array (Option Value)} {oc12 kV12 dc12 pm12 cd12 ct12 : Value}
  (p12 : PySem.W.nsIn K mainGlobals "_law_worth" = some (some (.ref a12))) (l12 : K.lookup a12 = some ⟨oc12, od12, .func (PySem.W.fnOf "_law_worth" "_law_worth" (defArgs (topS 13)) (defBody (topS 13)) (defScope (topS 13)) .none kV12 dc12 pm12 an12 cd12 ct12), sl12⟩) (c12 : PySem.W.codeIn K cd12 "_law_worth" = true) (k12 : PySem.W.keepIn K (.ref a12) = true)
  {a13 : Addr} {od13 an13 : Option Addr} {sl13 : Array (Option Value)} {oc13 kV13 dc13 pm13 cd13 ct13 : Value}
  (p13 : PySem.W.nsIn K mainGlobals "law" = some (some (.ref a13))) (l13 : K.lookup a13 = some ⟨oc13, od13, .func (PySem.W.fnOf "law" "law" (defArgs (topS 16)) (defBody (topS 16)) (defScope (topS 16)) .none kV13 dc13 pm13 an13 cd13 ct13), sl13⟩) (c13 : PySem.W.codeIn K cd13 "law" = true) (k13 : PySem.W.keepIn K (.ref a13) = true)
  (z_int : PySem.W.nsIn K mainGlobals "int" = some none)
  (z_len : PySem.W.nsIn K mainGlobals "len" = some none)
  (z_list : PySem.W.nsIn K mainGlobals "list" = some none)
  (z_range : PySem.W.nsIn K mainGlobals "range" = some none)
  (z_repr : PySem.W.nsIn K mainGlobals "repr" = some none)
  : Nonempty (Fx K w mg) := ⟨{
    a_by_sign := a0,
    fd_by_sign := _,
    F_by_sign := fun_mk l0 c0 k0,
    g_by_sign := PySem.W.mg_of X G p0,
    b_by_sign := (fun_mk (st := topS 1) l0 c0 k0).binds (ps := ["sign", "one", "other"]) fun _ _ _ _ _ _ us hl => match us, hl with | [_, _, _], _ => rfl,
    a_constant := a1,
    fd_constant := _,
    F_constant := fun_mk l1 c1 k1,
    g_constant := PySem.W.mg_of X G p1,
    b_constant := (fun_mk (st := topS 3) l1 c1 k1).binds (ps := ["number"]) fun _ _ _ _ _ _ us hl => match us, hl with | [_], _ => rfl,
    a_is_constant := a2,
    fd_is_constant := _,
    F_is_constant := fun_mk l2 c2 k2,
    g_is_constant := PySem.W.mg_of X G p2,
    b_is_constant := (fun_mk (st := topS 4) l2 c2 k2).binds (ps := ["term"]) fun _ _ _ _ _ _ us hl => match us, hl with | [_], _ => rfl,
    a_more_by := a3,
    fd_more_by := _,
    F_more_by := fun_mk l3 c3 k3,
    g_more_by := PySem.W.mg_of X G p3,
    b_more_by := (fun_mk (st := topS 5) l3 c3 k3).binds (ps := ["term", "number"]) fun _ _ _ _ _ _ us hl => match us, hl with | [_, _], _ => rfl,
    a__law_feed := a4,
    fd__law_feed := _,
    F__law_feed := fun_mk l4 c4 k4,
    g__law_feed := PySem.W.mg_of X G p4,
    b__law_feed := (fun_mk (st := topS 9) l4 c4 k4).binds (ps := ["_law_script"]) fun _ _ _ _ _ _ us hl => match us, hl with | [_], _ => rfl,
    a__law_draw := a5,
    fd__law_draw := _,
    F__law_draw := fun_mk l5 c5 k5,
    g__law_draw := PySem.W.mg_of X G p5,
    b__law_draw := (fun_mk (st := topS 10) l5 c5 k5).binds (ps := ["_law_feed_here", "_law_many"]) fun _ _ _ _ _ _ us hl => match us, hl with | [_, _], _ => rfl,
    a__law_sum := a6,
    fd__law_sum := _,
    F__law_sum := fun_mk l6 c6 k6,
    g__law_sum := PySem.W.mg_of X G p6,
    b__law_sum := (fun_mk (st := topS 11) l6 c6 k6).binds (ps := ["_law_word", "_law_one", "_law_other"]) fun _ _ _ _ _ _ us hl => match us, hl with | [_, _, _], _ => rfl,
    a__law_cell := a7,
    fd__law_cell := _,
    F__law_cell := fun_mk l7 c7 k7,
    g__law_cell := PySem.W.mg_of X G p7,
    b__law_cell := (fun_mk (st := topS 14) l7 c7 k7).binds (ps := ["_law_memory", "_law_cell_here", "_law_start", "_law_size"]) fun _ _ _ _ _ _ us hl => match us, hl with | [_, _, _, _], _ => rfl,
    a_of_constants := a8,
    fd_of_constants := _,
    F_of_constants := fun_mk l8 c8 k8,
    g_of_constants := PySem.W.mg_of X G p8,
    b_of_constants := (fun_mk (st := topS 6) l8 c8 k8).binds (ps := ["word", "one", "other"]) fun _ _ _ _ _ _ us hl => match us, hl with | [_, _, _], _ => rfl,
    a__law_made := a9,
    fd__law_made := _,
    F__law_made := fun_mk l9 c9 k9,
    g__law_made := PySem.W.mg_of X G p9,
    b__law_made := (fun_mk (st := topS 12) l9 c9 k9).binds (ps := ["_law_word", "_law_one", "_law_other"]) fun _ _ _ _ _ _ us hl => match us, hl with | [_, _, _], _ => rfl,
    a_made_of := a10,
    fd_made_of := _,
    F_made_of := fun_mk l10 c10 k10,
    g_made_of := PySem.W.mg_of X G p10,
    b_made_of := (fun_mk (st := topS 7) l10 c10 k10).binds (ps := ["word", "one", "other"]) fun _ _ _ _ _ _ us hl => match us, hl with | [_, _, _], _ => rfl,
    a__law_drawn := a11,
    fd__law_drawn := _,
    F__law_drawn := fun_mk l11 c11 k11,
    g__law_drawn := PySem.W.mg_of X G p11,
    b__law_drawn := (fun_mk (st := topS 15) l11 c11 k11).binds (ps := ["_law_feed_here", "_law_deep"]) fun _ _ _ _ _ _ us hl => match us, hl with | [_, _], _ => rfl,
    a__law_worth := a12,
    fd__law_worth := _,
    F__law_worth := fun_mk l12 c12 k12,
    g__law_worth := PySem.W.mg_of X G p12,
    b__law_worth := (fun_mk (st := topS 13) l12 c12 k12).binds (ps := ["_law_term", "_law_start", "_law_size"]) fun _ _ _ _ _ _ us hl => match us, hl with | [_, _, _], _ => rfl,
    a_law := a13,
    fd_law := _,
    F_law := fun_mk l13 c13 k13,
    g_law := PySem.W.mg_of X G p13,
    b_law := (fun_mk (st := topS 16) l13 c13 k13).binds (ps := ["_law_script"]) fun _ _ _ _ _ _ us hl => match us, hl with | [_], _ => rfl,
    n_int := PySem.W.mg_none_of X G z_int,
    n_len := PySem.W.mg_none_of X G z_len,
    n_list := PySem.W.mg_none_of X G z_list,
    n_range := PySem.W.mg_none_of X G z_range,
    n_repr := PySem.W.mg_none_of X G z_repr }⟩
theorem fx_use {K : PySem.W.Frag} {w : World} {mg : Str → Option Value} {h : Heap} {A : Prop} (X : K.In h) (f : Nonempty (Fx K w mg)) (g : Fx K w mg → A) : A := f.elim g
end Lk41

open PySem PySem.W PyProof.Rows
set_option maxRecDepth 100000 in
set_option maxHeartbeats 0 in
theorem PySem.Challenge.cw_straightroads_k41_terms_made_holds : PySem.Challenge.rw_straightroads_k41_terms_made.Holds := by
  w_on; o_law; k_head; (case hw => w_witness2)
  k_fill
  refine PL.pl_walk (l := PySem.Challenge.rw_straightroads_k41_terms_made) (n := 63) (k := 14) (x := "_law_script") (sp := Lk41.d_law) rfl (by decide) rfl ⟨rfl, by decide, by decide⟩ (fun w h Y => PySem.W.kIn_of Y) ?F Lk41.law_true
  case F =>
    intro w mg fa h KX G hmg
    refine Lk41.fx_use (w := w) (mg := mg) KX ?T ?U
    case T =>
      refine' Lk41.fx_mk KX G ?p0 ?l0 ?c0 ?k0 ?p1 ?l1 ?c1 ?k1 ?p2 ?l2 ?c2 ?k2 ?p3 ?l3 ?c3 ?k3 ?p4 ?l4 ?c4 ?k4 ?p5 ?l5 ?c5 ?k5 ?p6 ?l6 ?c6 ?k6 ?p7 ?l7 ?c7 ?k7 ?p8 ?l8 ?c8 ?k8 ?p9 ?l9 ?c9 ?k9 ?p10 ?l10 ?c10 ?k10 ?p11 ?l11 ?c11 ?k11 ?p12 ?l12 ?c12 ?k12 ?p13 ?l13 ?c13 ?k13 ?z_int ?z_len ?z_list ?z_range ?z_repr
      (case p0 => k_is)
      (case l0 => k_is)
      (case c0 => k_is)
      (case k0 => k_is)
      (case p1 => k_is)
      (case l1 => k_is)
      (case c1 => k_is)
      (case k1 => k_is)
      (case p2 => k_is)
      (case l2 => k_is)
      (case c2 => k_is)
      (case k2 => k_is)
      (case p3 => k_is)
      (case l3 => k_is)
      (case c3 => k_is)
      (case k3 => k_is)
      (case p4 => k_is)
      (case l4 => k_is)
      (case c4 => k_is)
      (case k4 => k_is)
      (case p5 => k_is)
      (case l5 => k_is)
      (case c5 => k_is)
      (case k5 => k_is)
      (case p6 => k_is)
      (case l6 => k_is)
      (case c6 => k_is)
      (case k6 => k_is)
      (case p7 => k_is)
      (case l7 => k_is)
      (case c7 => k_is)
      (case k7 => k_is)
      (case p8 => k_is)
      (case l8 => k_is)
      (case c8 => k_is)
      (case k8 => k_is)
      (case p9 => k_is)
      (case l9 => k_is)
      (case c9 => k_is)
      (case k9 => k_is)
      (case p10 => k_is)
      (case l10 => k_is)
      (case c10 => k_is)
      (case k10 => k_is)
      (case p11 => k_is)
      (case l11 => k_is)
      (case c11 => k_is)
      (case k11 => k_is)
      (case p12 => k_is)
      (case l12 => k_is)
      (case c12 => k_is)
      (case k12 => k_is)
      (case p13 => k_is)
      (case l13 => k_is)
      (case c13 => k_is)
      (case k13 => k_is)
      (case z_int => k_is)
      (case z_len => k_is)
      (case z_list => k_is)
      (case z_range => k_is)
      (case z_repr => k_is)
    intro T
    cases T.g_law.symm.trans hmg
    refine ⟨T.fd_law, fun s v => ?_, fun base _ _ => Lk41.ok_law T⟩
    obtain ⟨oc, od, kV, doc, pm, an, cdv, ct, osl, e, _, _⟩ := T.F_law.ex
    rw [e]
    exact .of_eq rfl
